/- Texts of this claim. -/
import Derived.Calls
import Derived.Laws.Sem
import Derived.Laws.World
import Derived.Laws.CopyRow
import Derived.Laws.Rows
import Derived.Laws.StructEq
import Derived.Laws.BytesString
set_option linter.unusedVariables false
set_option linter.unusedSimpArgs false
set_option linter.unusedSectionVars false
set_option maxRecDepth 100000
set_option maxHeartbeats 0
open Nat renaming le_refl → eAk,lt_of_lt_of_le → eAn,le_trans → eBf,zero_add → eAp,mul_one → eBx,add_zero → eAt,add_assoc → eAy,mul_le_mul_right → eAo,add_mul → eAl,le_of_ble_eq_true → eAf,eq_of_beq_eq_true → eAc,div_lt_iff_lt_mul → eCk,mod_lt → eCr,mul_comm → eCb,zero_le → eAv,lt_or_ge → eBw,ble_eq_true_of_le → eBg,mod_eq_of_lt → eCy
open Array renaming getElem?_eq_some_iff → eAe,getElem?_toList → eAj,getElem?_modify → eBr,getElem?_setIfInBounds → eBs,getD_eq_getD_getElem? → eAh,getElem?_eq_getElem → eAm,length_toList → eBa
open List renaming length_eq_zero_iff → eBn,mem_append → eBj,mem_singleton → eBe,mem_map → eBb,ext_getElem? → eBd,getElem?_map → eAg,getElem?_cons_succ → eCe,length_cons → eBi,getElem?_eq_some_iff → eAd,getElem?_eq_getElem → eAa,append_assoc → eCg,getElem?_append → eAs,getElem?_drop → eBp,getElem?_toArray → eBc,getElem?_set → eBm,mem_cons → eAz,getElem?_replicate → eCf,getElem_mem → eCp,mem_of_getElem? → eAu,length_take → eBv,length_drop → eCx,length_append → eBu,drop_drop → eCw,getElem?_append_left → eBz,getElem?_append_right → eCv,getElem?_cons_zero → eCo,length_map → eBt,getElem?_eq_none → eCt
open Bool renaming and_eq_true → eAb,or_eq_true → eAq,false_eq_true → eAi,not_false → eCq
open Option renaming map_some → eBh,getD_some → eBk,bind_some → eAx
open Int renaming toNat_natCast → eCh
section
namespace Go.Am
inductive D where
 |bool (b:Bool)
 |int (k:IntKind) (n:Int)
 |str (s:ByteArray)
 |list (full:Bool) (z:Nat) (es:List (List D))
 |agg (cells:List D)
 |nilp|nilm|nilf|nili
 |ref (cells:List D)
 deriving Inhabited
inductive AV where
 |bot
 |d (x:D)
 |bptr (id off:Nat)
 |ptr (id i off:Nat)
 |lptr (cells:List D) (off:Nat)
 |wptr (es:List (List D)) (off:Nat)
 |perm (es:List (List D))
 |slice (id z off len:Nat) (cap:Option Nat)
 |map (id:Nat)
 |yld (id:Nat)
 |clo (fn:Fn) (first captured:List AV)
 |iface (t:TypeId) (v:AV)
 |agg (cells:List AV)
 |tuple (vs:List AV)
 deriving Inhabited
inductive AO where
 |dead
 |box (cells:List AV)
 |row (es:List (List D))
 |arow (es:List (List AV))
 |map (es:List (D×D))
 |loop (st:LoopState) (pending:Option Code) (g:Nat) (pos:List Bool) (nt:Nat) (env:List (Nat×AV))
 deriving Inhabited
structure Loc where
 blk:Nat
 base:Nat
 esz:Nat
structure Rho where
 loc:Nat→Option Loc
 fr:Nat→Prop
instance:CoeFun Rho (fun _=>Nat→Option Loc):=⟨Rho.loc⟩
def z0e:List AO→Nat→AO
 |[],_=> .dead
 |o::_,0=>o
 |_::r,n+1=>z0e r n
def z0x:List AO→Nat→AO→List AO
 |[],0,x=>[x]
 |[],n+1,x=> .dead::z0x [] n x
 |_::r,0,x=>x::r
 |o::r,n+1,x=>o::z0x r n x
theorem z0g (h:List AO) (i:Nat) (x:AO):z0e (z0x h i x) i=x:=by
 induction h generalizing i with
 |nil=>induction i with
  |zero=>rfl
  |succ n ih=>simpa [z0x,z0e] using ih
 |cons o r ih=>cases i with
  |zero=>rfl
  |succ n=>simpa [z0x,z0e] using ih n
theorem z0b (h:List AO) (i j:Nat) (x:AO) (hne:i≠j):z0e (z0x h i x) j=z0e h j:=by
 induction h generalizing i j with
 |nil=>
  induction i generalizing j with
  |zero=>cases j with
   |zero=>exact absurd rfl hne
   |succ m=>simp [z0x,z0e]
  |succ n ih=>cases j with
   |zero=>simp [z0x,z0e]
   |succ m=>simpa [z0x,z0e] using ih m (by omega)
 |cons o r ih=>cases i with
  |zero=>cases j with
   |zero=>exact absurd rfl hne
   |succ m=>simp [z0x,z0e]
  |succ n=>cases j with
   |zero=>simp [z0x,z0e]
   |succ m=>simpa [z0x,z0e] using ih n m (by omega)
theorem x3g (h:List AO) (o:AO):z0x h h.length o=h++[o]:=by
 induction h with
 |nil=>rfl
 |cons x r ih=>simp [z0x,ih]
theorem z4n (h:List AO) (i:Nat) (o:AO) (hi:i<h.length):(z0x h i o).length=h.length:=by
 induction h generalizing i with
 |nil=>simp at hi
 |cons x r ih=>cases i with
  |zero=>rfl
  |succ n=>simpa [z0x] using ih n (by simpa using hi)
theorem z1m (h:List AO) (i:Nat) (o:AO):h.length≤(z0x h i o).length∧i<(z0x h i o).length:=by
 induction h generalizing i with
 |nil=>induction i with
  |zero=>simp [z0x]
  |succ n ih=>simp [z0x] at ih⊢; omega
 |cons x r ih=>cases i with
  |zero=>simp [z0x]
  |succ n=>have:=ih n; simp [z0x]; omega
theorem x2g (h:List AO) (i:Nat) (hi:h.length≤i):z0e h i= .dead:=by
 induction h generalizing i with
 |nil=>rfl
 |cons x r ih=>cases i with
  |zero=>simp at hi
  |succ n=>simpa [z0e] using ih n (by simpa using hi)
def AO.live:AO→Bool
 | .dead=>false
 |_=>true
def z0c (ρ:Rho) (h:List AO) (b:Nat):Prop:=ρ.fr b∨∃ id L,ρ id=some L∧(z0e h id).live=true∧L.blk=b
def z0t (w:World) (b:Nat):Option Nat:=
 match w.heap[b]? with
 |some (.cells c _ _)=>some c.size
 |_=>none
inductive z02 (O:Nat→Prop) (w:World):D→Value→Prop
 |bool (b:Bool):z02 O w (.bool b) (.bool b)
 |int (k:IntKind) (n:Int):z02 O w (.int k n) (.int k n)
 |str (s:ByteArray):z02 O w (.str s) (.string s)
 |nilp:z02 O w .nilp (.pointer none)
 |nilm:z02 O w .nilm (.map none)
 |nilf:z02 O w .nilf .nilFunc
 |nili:z02 O w .nili .nilIface
 |agg (ds:List D) (vs:Array Value) (hl:vs.size=ds.length) (h:∀ (i:Nat) (d:D),ds[i]?=some d→z02 O w d (vs.getD i undef)):z02 O w (.agg ds) (.agg vs)
 |lnil (full:Bool) (z:Nat) (a:Option Addr) (c:Nat) (h:full=true→c=0):z02 O w (.list full z []) (.slice a 0 c)
 |list (full:Bool) (es:List (List D)) (b o z c:Nat) (hz:0<z) (hne:es≠[]) (hO:¬ O b) (hlc:es.length≤c) (hf:full=true→c=es.length)
   (hsz:∀ (i:Nat) (r:List D),es[i]?=some r→r.length=z) (cell:Nat→Value) (h1:∀ k,k<es.length*z→(cell k).oneCell'=true) (hc:∀ k,k<es.length*z→w.cell? ⟨b,o+k,none⟩=some (cell k))
   (h:∀ (i:Nat) (r:List D) (j:Nat) (d:D),es[i]?=some r→r[j]?=some d→z02 O w d (cell (i*z+j))):z02 O w (.list full z es) (.slice (some ⟨b,o,none⟩) es.length c)
 |ref (r:List D) (b o:Nat) (hne:r≠[]) (hO:¬ O b) (cell:Nat→Value) (hc:∀ k,k<r.length→w.cell? ⟨b,o+k,none⟩=some (cell k))
   (h:∀ (k:Nat) (x:D),r[k]?=some x→z02 O w x (cell k)):z02 O w (.ref r) (.pointer (some ⟨b,o,none⟩))
inductive z0i (ρ:Rho) (O:Nat→Prop) (w:World):AV→Value→Prop
 |bot (v:Value):z0i ρ O w .bot v
 |d {x:D} {v:Value} (h:z02 O w x v):z0i ρ O w (.d x) v
 |bptr (id off:Nat) (L:Loc) (h:ρ id=some L):z0i ρ O w (.bptr id off) (.pointer (some ⟨L.blk,L.base+off,none⟩))
 |ptr (id i off:Nat) (L:Loc) (h:ρ id=some L):z0i ρ O w (.ptr id i off) (.pointer (some ⟨L.blk,L.base+i*L.esz+off,none⟩))
 |lptr (r:List D) (off b o:Nat) (hlt:b<w.heap.size) (hO:¬ O b) (cell:Nat→Value) (hc:∀ k,k<r.length→w.cell? ⟨b,o+k,none⟩=some (cell k))
   (hr:∀ (k:Nat) (x:D),r[k]?=some x→z02 O w x (cell k)):z0i ρ O w (.lptr r off) (.pointer (some ⟨b,o+off,none⟩))
 |wptr (es:List (List D)) (off b o z:Nat) (hlt:b<w.heap.size) (hO:¬ O b) (hz:∀ (i:Nat) (r:List D),es[i]?=some r→r.length=z)
   (hc:∀ (i:Nat) (r:List D) (j:Nat) (x:D),es[i]?=some r→r[j]?=some x→∃ v,w.cell? ⟨b,o+i*z+j,none⟩=some v∧z02 O w x v):z0i ρ O w (.wptr es off) (.pointer (some ⟨b,o+off,none⟩))
 |perm (es es':List (List D)) (v:Value) (hp:es'.Perm es) (h:z02 O w (.list false 1 es') v):z0i ρ O w (.perm es) v
 |slice (id z off len:Nat) (cap:Option Nat) (L:Loc) (a:Option Addr) (c:Nat) (h:ρ id=some L) (hz:L.esz=z) (ha:0<c→a=some ⟨L.blk,L.base+off*L.esz,none⟩)
   (hc:cap=some c∨(cap=none∧∃ n,z0t w L.blk=some n∧L.base+(off+c)*L.esz≤n)) (hl:len≤c):z0i ρ O w (.slice id z off len cap) (.slice a len c)
 |nils (id z off:Nat) (cap:Option Nat) (a:Option Addr) (hc:cap=none∨cap=some 0):z0i ρ O w (.slice id z off 0 cap) (.slice a 0 0)
 |map (id:Nat) (L:Loc) (h:ρ id=some L):z0i ρ O w (.map id) (.map (some L.blk))
 |yld (id:Nat) (L:Loc) (h:ρ id=some L):z0i ρ O w (.yld id) (.func (.yield L.blk) #[] #[])
 |clo (fn:Fn) (fs cs:List AV) (vf vc:Array Value) (hf:vf.size=fs.length) (hc:vc.size=cs.length)
   (h1:∀ (i:Nat) (x:AV),fs[i]?=some x→z0i ρ O w x (vf.getD i undef)) (h2:∀ (i:Nat) (x:AV),cs[i]?=some x→z0i ρ O w x (vc.getD i undef)):z0i ρ O w (.clo fn fs cs) (.func fn vf vc)
 |iface (t:TypeId) (x:AV) (v:Value) (h:z0i ρ O w x v):z0i ρ O w (.iface t x) (.iface t v)
 |agg (xs:List AV) (vs:Array Value) (hl:vs.size=xs.length) (h:∀ (i:Nat) (x:AV),xs[i]?=some x→z0i ρ O w x (vs.getD i undef)):z0i ρ O w (.agg xs) (.agg vs)
 |tuple (xs:List AV) (vs:Array Value) (hl:vs.size=xs.length) (h:∀ (i:Nat) (x:AV),xs[i]?=some x→z0i ρ O w x (vs.getD i undef)):z0i ρ O w (.tuple xs) (.tuple vs)
def z0m (_ _:Nat):Prop:=True
theorem z0m.refl (a:Nat):z0m a a:=trivial
theorem z0m.trans {a b c:Nat} (h:z0m a b) (k:z0m b c):z0m a c:=trivial
theorem z0m.succ (a:Nat):z0m a (a+1):=trivial
structure z3s (O O':Nat→Prop) (w w':World):Prop where
 size:w.heap.size≤w'.heap.size
 frame:∀ b,b<w.heap.size→¬ O b→w'.heap[b]?=w.heap[b]?
 own:∀ b,b<w.heap.size→O' b→O b
 shape:∀ b n,z0t w b=some n→z0t w' b=some n
 drawn:z0m w.drawn w'.drawn
theorem z3s.refl (O:Nat→Prop) (w:World):z3s O O w w:=⟨eAk _,fun _ _ _=>rfl,fun _ _ h=>h,fun _ _ h=>h,z0m.refl _⟩
theorem y0b {w:World} {a:Addr} {v:Value} (h:w.cell? a=some v):a.block<w.heap.size:=by
 unfold World.cell? at h
 cases hb:w.heap[a.block]? with
 |none=>simp [hb] at h
 |some o=>exact (eAe.1 hb).1
theorem z1x {w w':World} {a:Addr} (h:w'.heap[a.block]?=w.heap[a.block]?):w'.cell? a=w.cell? a:=by
 unfold World.cell?; rw [h]
theorem z02.keep {O O':Nat→Prop} {w w':World} (k:z3s O O' w w') {x:D} {v:Value} (h:z02 O w x v):z02 O' w' x v:=by
 induction h with
 |bool b=>exact .bool b
 |int k n=>exact .int k n
 |str s=>exact .str s
 |nilp=>exact .nilp
 |nilm=>exact .nilm
 |nilf=>exact .nilf
 |nili=>exact .nili
 |agg ds vs hl h ih=>exact .agg ds vs hl ih
 |lnil f z a c h=>exact .lnil f z a c h
 |list full es b o z c hz hne hO hlc hf hsz cell h1 hc h ih=>
  have hlt:b<w.heap.size:=by
   have h0:0<es.length*z:=Nat.mul_pos (List.length_pos_iff.2 hne) hz
   exact y0b (hc 0 h0)
  refine .list full es b o z c hz hne (fun h=>hO (k.own b hlt h)) hlc hf hsz cell h1 (fun j hj=>?_) ih
  rw [z1x (w:=w)]
  ·exact hc j hj
  ·exact k.frame b hlt hO
 |ref r b o hne hO cell hc h ih=>
  have hlt:b<w.heap.size:=y0b (hc 0 (List.length_pos_iff.2 hne))
  refine .ref r b o hne (fun h=>hO (k.own b hlt h)) cell (fun j hj=>?_) ih
  rw [z1x (w:=w)]
  ·exact hc j hj
  ·exact k.frame b hlt hO
theorem z0i.keep {ρ ρ':Rho} {O O':Nat→Prop} {w w':World} (k:z3s O O' w w') (hρ:∀ id L,ρ id=some L→ρ' id=some L) {x:AV} {v:Value} (h:z0i ρ O w x v):z0i ρ' O' w' x v:=by
 induction h with
 |bot v=>exact .bot v
 |d h=>exact .d (h.keep k)
 |bptr id off L h=>exact .bptr id off L (hρ _ _ h)
 |ptr id i off L h=>exact .ptr id i off L (hρ _ _ h)
 |lptr r off b o hlt hO cell hc hr=>
  refine .lptr r off b o ?_ (fun h=>hO (k.own b hlt h)) cell (fun j hj=>?_) (fun j x hx=>(hr j x hx).keep k)
  ·exact eAn hlt k.size
  ·rw [z1x (w:=w)]
   ·exact hc j hj
   ·exact k.frame b hlt hO
 |wptr es off b o z hlt hO hz hc=>
  refine .wptr es off b o z (eAn hlt k.size) (fun h=>hO (k.own b hlt h)) hz fun i r j x hi hx=>?_
  obtain ⟨v,hv,hr⟩:=hc i r j x hi hx
  refine ⟨v,?_,hr.keep k⟩
  rw [z1x (w:=w)]
  ·exact hv
  ·exact k.frame b hlt hO
 |perm es es' v hp h=>exact .perm es es' v hp (h.keep k)
 |slice id z off len cap L a c h hz ha hc hl=>
  refine .slice id z off len cap L a c (hρ _ _ h) hz ha ?_ hl
  rcases hc with hc|⟨hc,n,hn,hle⟩
  ·exact .inl hc
  ·exact .inr ⟨hc,n,k.shape _ _ hn,hle⟩
 |nils id z off cap a hc=>exact .nils id z off cap a hc
 |map id L h=>exact .map id L (hρ _ _ h)
 |yld id L h=>exact .yld id L (hρ _ _ h)
 |clo fn fs cs vf vc hf hc h1 h2 ih1 ih2=>exact .clo fn fs cs vf vc hf hc ih1 ih2
 |iface t x v h ih=>exact .iface t x v ih
 |agg xs vs hl h ih=>exact .agg xs vs hl ih
 |tuple xs vs hl h ih=>exact .tuple xs vs hl ih
def w6c:D→D→Prop
 | .list f z es,y=>y= .list f z es∨(∃ z',y= .list false z' es∧(z'=z∨es=[]))∨(∃ z',y= .list f z' es∧es=[])
 |x,y=>y=x
theorem w6c.refl (x:D):w6c x x:=by cases x<;>first|rfl|exact .inl rfl
theorem z02.le0 {O:Nat→Prop} {w:World} {x y:D} {v:Value} (hl:w6c x y) (h:z02 O w x v):z02 O w y v:=by
 cases h with
 |lnil f z a c hf=>
  rcases hl with rfl|⟨z',rfl,_⟩|⟨z',rfl,_⟩
  ·exact .lnil f z a c hf
  ·exact .lnil false z' a c (by simp)
  ·exact .lnil f z' a c hf
 |list full es b o z c hz hne hO hlc hf hsz cell h1 hc h=>
  rcases hl with rfl|⟨z',rfl,hz'⟩|⟨z',rfl,h0⟩
  ·exact .list full es b o z c hz hne hO hlc hf hsz cell h1 hc h
  ·rcases hz' with rfl|h0
   ·exact .list false es b o z' c hz hne hO hlc (by simp) hsz cell h1 hc h
   ·exact absurd h0 hne
  ·exact absurd h0 hne
 |bool b=>cases hl; exact .bool b
 |int k n=>cases hl; exact .int k n
 |str s=>cases hl; exact .str s
 |nilp=>cases hl; exact .nilp
 |nilm=>cases hl; exact .nilm
 |nilf=>cases hl; exact .nilf
 |nili=>cases hl; exact .nili
 |agg ds vs h1 h2=>cases hl; exact .agg ds vs h1 h2
 |ref r b o hne hO cell hc h=>cases hl; exact .ref r b o hne hO cell hc h
def DLe (x y:D):Prop:=w6c x y∨∃ r r',x= .ref r∧y= .ref r'∧r'.length=r.length∧∀ (j:Nat) (d:D),r'[j]?=some d→∃ c,r[j]?=some c∧w6c c d
theorem DLe.refl (x:D):DLe x x:= .inl (.refl x)
theorem z02.le {O:Nat→Prop} {w:World} {x y:D} {v:Value} (hl:DLe x y) (h:z02 O w x v):z02 O w y v:=by
 rcases hl with hl|⟨r,r',rfl,rfl,h1,h2⟩
 ·exact h.le0 hl
 ·cases h with
  |ref _ b o hne hO cell hc h=>
   refine .ref r' b o (by intro e; rw [e] at h1; exact hne (eBn.1 h1.symm)) hO cell (fun k hk=>hc k (by omega)) fun k d hd=>?_
   obtain ⟨c,hc1,hle⟩:=h2 k d hd
   exact (h k c hc1).le0 hle
def y8y (r r':List D):Prop:=r'.length=r.length∧∀ (j:Nat) (y:D),r'[j]?=some y→∃ x,r[j]?=some x∧DLe x y
theorem y8y.refl (r:List D):y8y r r:=⟨rfl,fun j y h=>⟨y,h, .refl y⟩⟩
def x9x (es:List (List D)) (i:Nat) (r:List D):Prop:=∃ r0,es[i]?=some r0∧y8y r0 r
def v15 (x y:D):Prop:=DLe x y∨∃ l l',x= .agg l∧y= .agg l'∧y8y l l'
theorem z02.le2 {O:Nat→Prop} {w:World} {x y:D} {v:Value} (hl:v15 x y) (h:z02 O w x v):z02 O w y v:=by
 rcases hl with hl|⟨l,l',rfl,rfl,h1,h2⟩
 ·exact h.le hl
 ·cases h with
  |agg _ vs hs hh=>
   refine .agg l' vs (by rw [h1]; exact hs) fun i d hd=>?_
   obtain ⟨x,hx,hle⟩:=h2 i d hd
   exact (hh i x hx).le hle
end Go.Am
end
section
namespace Go.Am
inductive SK where
 |i|b|s
 deriving DecidableEq
inductive TK where
 |int (k:IntKind)|bool|str
 |struct (fs:List (Nat×Nat×Bool))
 |arr (n esz:Nat) (eagg:Bool)
 |slc (e esz ebytes:Nat) (eagg:Bool) (ezero:List D)
 |ptr (arr:Option (Nat×Nat))
 |map (ks:List SK) (kagg:Bool) (ezero:D)
 |mapx
 |func|iface|other
 deriving Inhabited
structure TI where
 size:Nat
 bytes:Nat
 agg:Bool
 zero:List D
 desc:TK
 eqk:Option (List SK)
 deriving Inhabited
def w74:Value→Option D
 | .bool b=>some (.bool b)
 | .int k n=>some (.int k n)
 | .string s=>some (.str s)
 | .slice none 0 0=>some (.list true 0 [])
 | .pointer none=>some .nilp
 | .map none=>some .nilm
 | .nilFunc=>some .nilf
 | .nilIface=>some .nili
 |_=>none
def y04:List Value→Option (List D)
 |[]=>some []
 |v::r=>match w74 v,y04 r with
  |some d,some ds=>some (d::ds)
  |_,_=>none
def w9g:Value→Option D
 | .agg cs=>(y04 cs.toList).map .agg
 |v=>w74 v
def z6i:TypeDesc→Bool
 | .struct _| .array _ _=>true
 |_=>false
def z78 (P:Program) (t:TypeId):Option Nat:=(P.info? t).map (·.size)
def z2y (P:Program) (t:TypeId):Option Bool:=(P.underlying t).map z6i
def y21 (P:Program) (t:TypeId):Option (List D):=((P.info? t).bind (·.zero)).bind fun z=>y04 z.cells.toList
def x6q (P:Program) (t:TypeId):Option D:=((P.info? t).bind (·.zero)).bind w9g
def y0c (P:Program) (t:TypeId):Option Nat:=(P.info? t).map (·.bytes)
def w0t (P : Program) (flat : TypeId → Option (List SK)) : Nat → List Field → Option (List SK)
 | _, [] => some []
 | off, f :: fs => if f.name ≠ "_" ∧ f.offset = off then
   match flat f.type with
   | some ks => if z78 P f.type = some ks.length then (w0t P flat (off + ks.length) fs).map (ks ++ ·) else none
   | none => none
  else none
def x8p (P:Program) (flat:TypeId→Option (List SK)) (t:TypeId):Option (List SK):=
 match P.underlying t with
 |some (.int _)=>some [.i]
 |some .bool=>some [.b]
 |some .string=>some [.s]
 |some (.struct fs)=>if P.stoodInHeld t then none else w0t P flat 0 fs.toList
 |some (.array m e)=>(flat e).map fun ks=>(List.replicate m ks).flatten
 |_=>none
def z3j (P:Program):Nat→TypeId→Option (List SK)
 |0,_=>none
 |n+1,t=>match x8p P (z3j P n) t with
  |some ks=>if z78 P t=some ks.length then some ks else none
  |none=>none
def fieldsOf (P:Program):List Field→Option (List (Nat×Nat×Bool))
 |[]=>some []
 |f::r=>match z78 P f.type,z2y P f.type,fieldsOf P r with
  |some s,some a,some l=>some ((f.offset,s,a)::l)
  |_,_,_=>none
def v0d (P:Program):TypeDesc→Option TK
 | .int k=>some (.int k)
 | .bool=>some .bool
 | .string=>some .str
 | .struct fs=>(fieldsOf P fs.toList).map .struct
 | .array n e=>match z78 P e,z2y P e with
  |some s,some a=>some (.arr n s a)
  |_,_=>none
 | .slice e=>match z78 P e,z2y P e,y0c P e,y21 P e with
  |some s,some a,some b,some z=>if z.length=s then some (.slc e s b a z) else none
  |_,_,_,_=>none
 | .pointer e=>match P.underlying e with
  |some (.array n e')=>(z78 P e').map fun s=> .ptr (some (n,s))
  |_=>some (.ptr none)
 | .map k e=>match z3j P 8 k,z2y P k,x6q P e,P.eqGuardType P.depth k with
  |some ks,some a,some z,false=>some (.map ks a z)
  |_,_,_,_=>some .mapx
 | .func _ _ _=>some .func
 | .interface _=>some .iface
 |_=>some .other
def x8c:Value→Bool
 | .agg _=>true
 |_=>false
def w69 (P:Program) (t:TypeId):Option TI:=
 match P.info? t,P.underlying t with
 |some i,some d=>match i.zero with
  |some z=>match y04 z.cells.toList,v0d P d with
   |some zs,some k=>if (z6i d==x8c z)&&(zs.length==i.size) then some ⟨i.size,i.bytes,z6i d,zs,k,if P.eqGuardType P.depth t then none else z3j P 8 t⟩ else none
   |_,_=>none
  |none=>none
 |_,_=>none
inductive CR where
 |int (k:IntKind)|bool|str|list (z:Nat)
 deriving Inhabited
inductive CK where
 |int (k:IntKind)|bool|str|list (z:Nat)|other
 |ref (ks:List CR)
 deriving Inhabited
structure Prim where
 ar:BinOp→IntKind→Int→Int→Int
 cmp:BinOp→Int→Int→Bool
 cvt:IntKind→Int→Int
 nat:Int→Nat
 ofNat:Nat→Int
 add:Nat→Nat→Nat
 sub:Nat→Nat→Nat
 mul:Nat→Nat→Nat
 leN:Nat→Nat→Bool
 byte:ByteArray→Int→Int
 bEq:Bool→Bool→Bool
 len:List (List D)→Nat
 w06:List (List AV)→Nat
 set:List (List D)→Nat→List D→List (List D)
 app:List (List D)→List (List D)→List (List D)
 cut:List (List D)→Nat→Nat→List (List D)
 strEq:ByteArray→ByteArray→Bool
 rep:Nat→List D→List (List D)
 splice:List (List D)→Nat→List (List D)→List (List D)
 min:Nat→Nat→Nat
 and:Bool→Bool→Bool
 mm:BinOp→Int→Int→Int
 mset:List (D×D)→Nat→D→D→List (D×D)
 madd:List (D×D)→D→D→List (D×D)
 mdel:List (D×D)→Nat→List (D×D)
 mlen:List (D×D)→Nat
 eqN:Nat→Nat→Bool
 rowOk:List (List D)→Nat→List CK→Bool
 rdI:List (List D)→Nat→Nat→Int
 rdB:List (List D)→Nat→Nat→Bool
 rdS:List (List D)→Nat→Nat→ByteArray
 rdL:List (List D)→Nat→Nat→List (List D)
 rdR:List (List D)→Nat→Nat→List (List D)
 mOk:List (D×D)→List SK→Bool→D→Bool→List CK→Bool
 mhas:List (D×D)→List SK→Bool→D→Bool
 mpos:List (D×D)→List SK→Bool→D→Nat
 mI:List (D×D)→List SK→Bool→D→Nat→Int
 mB:List (D×D)→List SK→Bool→D→Nat→Bool
 mS:List (D×D)→List SK→Bool→D→Nat→ByteArray
 mL:List (D×D)→List SK→Bool→D→Nat→List (List D)
 mR:List (D×D)→List SK→Bool→D→Nat→List (List D)
 plain:List (List D)→Bool
 plainM:List (D×D)→Bool
 slen:ByteArray→Nat
 scut:ByteArray→Nat→Nat→ByteArray
 scat:ByteArray→ByteArray→ByteArray
 schr:Int→ByteArray
 rdF:List (List D)→Nat→Nat→Nat→Bool
def x1z (op:BinOp) (k:IntKind) (x y:Int):Int:=
 match op with
 | .add=>k.wrap (x+y)
 | .sub=>k.wrap (x - y)
 | .mul=>k.wrap (x*y)
 | .quo=>k.wrap (x.tdiv y)
 | .rem=>x.tmod y
 | .and=>k.wrap ((BitVec.ofInt k.bits x&&&BitVec.ofInt k.bits y).toNat:Nat)
 | .or=>k.wrap ((BitVec.ofInt k.bits x|||BitVec.ofInt k.bits y).toNat:Nat)
 | .xor=>k.wrap ((BitVec.ofInt k.bits x ^^^ BitVec.ofInt k.bits y).toNat:Nat)
 | .andNot=>k.wrap ((BitVec.ofInt k.bits x&&& ~~~ (BitVec.ofInt k.bits y)).toNat:Nat)
 | .shl=>k.wrap (x*2 ^ (min y.toNat k.bits))
 | .shr=>x.fdiv (2 ^ (min y.toNat k.bits))
 |_=>0
def z3o (op:BinOp) (x y:Int):Bool:=
 match op with
 | .eql=>x==y
 | .neq=>x !=y
 | .lss=>x<y
 | .leq=>x≤y
 | .gtr=>x>y
 | .geq=>x≥y
 |_=>false
def z9f:List SK→List D→List D→Option Bool
 |[],[],[]=>some true
 | .i::ks, .int k a::x, .int k' b::y=>bif k==k' then match z9f ks x y with
   |some r=>some (z3o .eql a b&&r)
   |none=>none
  else none
 | .b::ks, .bool a::x, .bool b::y=>match z9f ks x y with
   |some r=>some ((a==b)&&r)
   |none=>none
 | .s::ks, .str a::x, .str b::y=>match z9f ks x y with
   |some r=>some ((a.toList==b.toList)&&r)
   |none=>none
 |_,_,_=>none
def z0q:D→List D
 | .agg l=>l
 |x=>[x]
def z1h:D→Bool
 | .agg _=>true
 |_=>false
def x0l (ks:List SK) (ka:Bool) (k:D):List (D×D)→Nat→Option (Option (Nat×D))
 |[],_=>some none
 |(k',v)::r,i=>bif (z1h k==ka)&&(z1h k'==ka) then match z9f ks (z0q k) (z0q k') with
   |some true=>some (some (i,v))
   |some false=>x0l ks ka k r (i+1)
   |none=>none
  else none
def z04:List SK→List D→Bool
 |[],[]=>true
 | .i::ks, .int _ _::r=>z04 ks r
 | .b::ks, .bool _::r=>z04 ks r
 | .s::ks, .str _::r=>z04 ks r
 |_,_=>false
def y8r:CR→D→Bool
 | .int k, .int k' _=>k==k'
 | .bool, .bool _=>true
 | .str, .str _=>true
 | .list z, .list _ z' es=>Nat.beq z z'||es.isEmpty
 |_,_=>false
def z9h:List CR→List D→Bool
 |[],[]=>true
 |c::cs,d::ds=>y8r c d&&z9h cs ds
 |_,_=>false
def y6y:CK→D→Bool
 | .int k, .int k' _=>k==k'
 | .bool, .bool _=>true
 | .str, .str _=>true
 | .list z, .list _ z' es=>Nat.beq z z'||es.isEmpty
 | .ref ks, .ref ds=>z9h ks ds
 |_,_=>false
def z3k:List CK→List D→Bool
 |[],[]=>true
 |c::cs,d::ds=>y6y c d&&z3k cs ds
 |_,_=>false
def rdD (es:List (List D)) (i j:Nat):D:=((es[i]?).bind (·[j]?)).getD .nilp
def dI:D→Int
 | .int _ n=>n
 |_=>0
def dB:D→Bool
 | .bool b=>b
 |_=>false
def dS:D→ByteArray
 | .str s=>s
 |_=>ByteArray.empty
def dL:D→List (List D)
 | .list _ _ es=>es
 |_=>[]
def dF (z:Nat):D→Bool
 | .list f z' es=>f&&(Nat.beq z z'||es.isEmpty)
 |_=>false
def dR:D→List (List D)
 | .ref r=>[r]
 |_=>[]
def w4n (es:List (D×D)) (ks:List SK) (ka:Bool) (k:D):Option (Nat×D):=(x0l ks ka k es 0).join
def x2i (es:List (D×D)) (ks:List SK) (ka:Bool) (k:D) (j:Nat):D:=match w4n es ks ka k with
 |some (_,v)=>((z0q v)[j]?).getD .nilp
 |none=> .nilp
mutual
def z6v:D→Bool
 | .list _ _ es=>es.isEmpty
 | .agg ds=>y3x ds
 | .ref _=>false
 |_=>true
def y3x:List D→Bool
 |[]=>true
 |d::l=>z6v d&&y3x l
end
def std:Prim where
 ar:=x1z
 cmp:=z3o
 cvt:=fun k n=>k.wrap n
 nat:=Int.toNat
 ofNat:=fun n=>(n:Int)
 add:=fun a b=>a+b
 sub:=fun a b=>a - b
 mul:=fun a b=>a*b
 leN:=fun a b=>Nat.ble a b
 byte:=fun s i=>((s[i.toNat]?.map fun b=>(b.toNat:Int)).getD 0)
 bEq:=fun a b=>a==b
 len:=fun l=>l.length
 w06:=fun l=>l.length
 set:=fun l i r=>l.set i r
 app:=fun a b=>a++b
 cut:=fun l a n=>(l.drop a).take n
 strEq:=fun a b=>a.toList==b.toList
 rep:=fun n z=>List.replicate n z
 splice:=fun l i xs=>l.take i++xs++l.drop (i+xs.length)
 min:=fun a b=>Nat.min a b
 and:=fun a b=>a&&b
 mm:=fun op a b=>match op with| .lss=>if b<a then b else a|_=>if b>a then b else a
 mset:=fun es i k x=>es.set i (k,x)
 madd:=fun es k x=>es++[(k,x)]
 mdel:=fun es i=>es.eraseIdx i
 mlen:=fun es=>es.length
 eqN:=fun a b=>Nat.beq a b
 rowOk:=fun es i ck=>match es[i]? with|some r=>z3k ck r|none=>false
 rdI:=fun es i j=>dI (rdD es i j)
 rdB:=fun es i j=>dB (rdD es i j)
 rdS:=fun es i j=>dS (rdD es i j)
 rdL:=fun es i j=>dL (rdD es i j)
 rdR:=fun es i j=>dR (rdD es i j)
 mOk:=fun es ks ka k a ck=>(z1h k==ka)&&z04 ks (z0q k)&&match x0l ks ka k es 0 with|some none=>true|some (some (_,v))=>(z1h v==a)&&z3k ck (z0q v)|none=>false
 mhas:=fun es ks ka k=>(w4n es ks ka k).isSome
 mpos:=fun es ks ka k=>((w4n es ks ka k).map (·.1)).getD 0
 mI:=fun es ks ka k j=>dI (x2i es ks ka k j)
 mB:=fun es ks ka k j=>dB (x2i es ks ka k j)
 mS:=fun es ks ka k j=>dS (x2i es ks ka k j)
 mL:=fun es ks ka k j=>dL (x2i es ks ka k j)
 mR:=fun es ks ka k j=>dR (x2i es ks ka k j)
 plain:=fun es=>es.all fun r=>r.all z6v
 plainM:=fun es=>es.all fun e=>z6v e.1&&z6v e.2
 slen:=fun s=>s.size
 scut:=fun s a b=>s.extract a b
 scat:=fun a b=>a++b
 schr:=fun n=>Utf8.encode n
 rdF:=fun es i j z=>dF z (rdD es i j)
inductive w8v where
 |arith|divs|bits|shift|comp
def z9n:BinOp→w8v
 | .add| .sub| .mul=> .arith
 | .quo| .rem=> .divs
 | .and| .or| .xor| .andNot=> .bits
 | .shl| .shr=> .shift
 |_=> .comp
structure Res where
 c:Bool
 v:AV
 u:List (Nat×AO)
def z1k:List (Nat×AV)→Nat→AV
 |[],_=> .bot
 |(k,v)::r,t=>bif Nat.beq k t then v else z1k r t
def x93 (env:List (Nat×AV)) (t:Nat) (v:AV):List (Nat×AV):=(t,v)::env
def w61:List (Nat×AV)→Nat→AV→List (Nat×AV)
 |[],t,v=>[(t,v)]
 |(k,w)::r,t,v=>bif Nat.beq k t then (k,v)::r else (k,w)::w61 r t v
def z0j (env:List (Nat×AV)):Operand→AV
 | .tmp t=>z1k env t
 | .const v=>match w9g v with
  |some d=> .d d
  |none=> .bot
 | .global _=> .bot
 | .func f=> .clo (.func f) [] []
def z0s (env:List (Nat×AV)):List Operand→List AV
 |[]=>[]
 |x::r=>z0j env x::z0s env r
def y8x:List AV→Option (List D)
 |[]=>some []
 | .d x::r=>match y8x r with
  |some l=>some (x::l)
  |none=>none
 |_::_=>none
def toA:List D→List AV
 |[]=>[]
 |x::r=> .d x::toA r
def z5m (agg:Bool) (l:List AV):Option AV:=
 match agg with
 |true=>match y8x l with
  |some ds=>some (.d (.agg ds))
  |none=>some (.agg l)
 |false=>match l with
  |[x]=>some x
  |_=>none
def z4m (agg:Bool) (l:List D):Option AV:=
 match agg with
 |true=>some (.d (.agg l))
 |false=>match l with
  |[x]=>some (.d x)
  |_=>none
def z1w:AV→Option (List AV)
 | .d (.agg l)=>some (toA l)
 | .agg l=>some l
 | .bot=>none
 | .tuple _=>none
 | .perm _=>none
 |x=>some [x]
def x95:AV→Bool
 | .d (.agg _)| .agg _| .bot| .tuple _| .perm _=>false
 |_=>true
def w4t:D→Bool
 | .agg _=>false
 |_=>true
def z58:List AV→Bool
 |[]=>true
 |x::r=>x95 x&&z58 r
def part {α:Type}:List α→Nat→Nat→Option (List α)
 |_,0,0=>some []
 |x::l,0,n+1=>match part l 0 n with
  |some r=>some (x::r)
  |none=>none
 |_::l,i+1,n=>part l i n
 |[],_,_=>none
def x19 {α:Type}:List α→Nat→List α→Option (List α)
 |l,0,[]=>some l
 |_::l,0,x::xs=>match x19 l 0 xs with
  |some r=>some (x::r)
  |none=>none
 |y::l,i+1,xs=>match x19 l i xs with
  |some r=>some (y::r)
  |none=>none
 |[],_,_=>none
def ok (v:AV):Option Res:=some ⟨true,v,[]⟩
def z60 {α:Type}:List α→Nat→Bool
 |[],0=>true
 |_::l,n+1=>z60 l n
 |_,_=>false
def z3u (ti:TI) (h:List AO) (r:List D) (ra:List AV):AV→Option Res
 | .bptr id off=>match z0e h id with
  | .box cells=>match part cells off ti.size with
   |some l=>(z5m ti.agg l).bind ok
   |none=>none
  | .row _=>bif z60 r ti.size then (z4m ti.agg r).bind ok else none
  |_=>none
 | .ptr id _ off=>match z0e h id with
  | .row _=>match part r off ti.size with
   |some l=>(z4m ti.agg l).bind ok
   |none=>none
  | .arow _=>match part ra off ti.size with
   |some l=>(z5m ti.agg l).bind ok
   |none=>none
  |_=>none
 | .wptr _ _=>bif z60 r ti.size then (z4m ti.agg r).bind ok else none
 | .lptr cells off=>match part cells off ti.size with
  |some l=>(z4m ti.agg l).bind ok
  |none=>none
 |_=>none
def x7t:List D→List (List D)
 |[]=>[]
 |x::l=>[x]::x7t l
def x3v {α:Type}:List α→Nat
 |[]=>0
 |_::l=>x3v l+1
def z4c:List (List D)→List (List AV)
 |[]=>[]
 |r::l=>toA r::z4c l
def z4d (p:Prim) (h:List AO) (r:List D) (ra:List AV) (cells:List AV):AV→Option Res
 | .bptr id off=>match z0e h id with
  | .box old=>match x19 old off cells with
   |some l=>some ⟨true, .bot,[(id, .box l)]⟩
   |none=>none
  | .row es=>match y8x cells,r with
   |some [x],[_]=>some ⟨true, .bot,[(id, .row (p.set es off [x]))]⟩
   |some ds,[_]=>some ⟨p.leN (p.add off (x3v ds)) (p.len es), .bot,[(id, .row (p.splice es off (x7t ds)))]⟩
   |_,_=>none
  |_=>none
 | .ptr id i off=>match z0e h id with
  | .row es=>match y8x cells with
   |some ds=>match x19 r off ds with
    |some l=>some ⟨true, .bot,[(id, .row (p.set es i l))]⟩
    |none=>none
   |none=>match x19 (toA r) off cells with
    |some l=>some ⟨true, .bot,[(id, .arow ((z4c es).set i l))]⟩
    |none=>none
  | .arow es=>match x19 ra off cells with
   |some l=>some ⟨true, .bot,[(id, .arow (es.set i l))]⟩
   |none=>none
  |_=>none
 |_=>none
def z4q (p:Prim) (ti:TI) (h:List AO) (r:List D) (ra:List AV) (a x:AV):Option Res:=
 match z1w x with
 |some cells=>bif Nat.ble 1 ti.size&&(z60 cells ti.size&&z58 cells) then z4d p h r ra cells a else none
 |none=>none
def y5h (place:Nat→Option (Nat×Nat)) (cells:List AV):List (Nat×AV)→Option (List AV)
 |[]=>some cells
 |(i,v)::rest=>match place i,z1w v with
  |some (off,size),some cs=>bif z60 cs size then
    match x19 cells off cs with
    |some l=>y5h place l rest
    |none=>none
   else none
  |_,_=>none
def z1j {α:Type}:List α→Nat→Option α
 |[],_=>none
 |x::_,0=>some x
 |_::r,n+1=>z1j r n
def z8b (ti:TI) (parts:List (Nat×AV)):Option Res:=
 match ti.desc with
 | .struct fs=>match y5h (fun i=>(z1j fs i).map fun f=>(f.1,f.2.1)) (toA ti.zero) parts with
  |some l=>(z5m true l).bind ok
  |none=>none
 | .arr n esz _=>match y5h (fun i=>some (i*esz,esz)) (toA ti.zero) parts with
  |some l=>(z5m true l).bind ok
  |none=>none
 |_=>none
def x06 {α:Type} (n:Nat):(fuel:Nat)→List α→Option (List (List α))
 |_,[]=>some []
 |0,_::_=>none
 |f+1,l=>match part l 0 n with
  |some x=>(x06 n f (l.drop n)).map (x:: ·)
  |none=>none
def y5o:List (List AV)→Option (List (List D))
 |[]=>some []
 |x::r=>match y8x x,y5o r with
  |some d,some l=>some (d::l)
  |_,_=>none
def w0v {α:Type}:Nat→List α→List α
 |0,_=>[]
 |n+1,l=>l++w0v n l
def x72 (es:List (List AV)):AO:=
 match y5o es with
 |some l=> .row l
 |none=> .arow es
def z1z (ti:TI) (new len:Nat) (parts:List (Nat×AV)):Option Res:=
 match ti.desc with
 | .slc _ esz _ _ ez=>bif Nat.ble 1 esz&&(Nat.ble (len*esz) 1000000) then
   match y5h (fun i=>some (i*esz,esz)) (toA (w0v len ez)) parts with
   |some l=>bif z58 l then match x06 esz len l with
    |some es=>some ⟨true, .slice new esz 0 len (some len),[(new,x72 es)]⟩
    |none=>none
    else none
   |none=>none
  else none
 |_=>none
def z3v (ti:TI) (new len:Nat) (parts:List (Nat×AV)) (r:List D):Option Res:=
 match r with
 |[]=>z1z ti new len parts
 |_::_=>match len with
  |0=>match z1z ti new 0 parts,ti.desc with
   |some _, .slc _ z _ _ _=>some ⟨true, .d (.list true z []),[]⟩
   |_,_=>none
  |n+1=>match z1z ti new (n+1) parts with
   |some res=>match res.u,ti.desc with
    |[(_, .row l)], .slc _ z _ _ _=>some ⟨true, .d (.list true z l),[]⟩
    |_,_=>some res
   |none=>none
def y0l (ti:TI) (f:Nat):AV→Option Res
 | .bptr id off=>match ti.desc with
  | .struct fs=>match z1j fs f with
   |some (o,s,_)=>bif Nat.ble 1 s then ok (.bptr id (off+o)) else none
   |none=>none
  |_=>none
 | .ptr id i off=>match ti.desc with
  | .struct fs=>match z1j fs f with
   |some (o,s,_)=>bif Nat.ble 1 s then ok (.ptr id i (off+o)) else none
   |none=>none
  |_=>none
 | .wptr c off=>match ti.desc with
  | .struct fs=>match z1j fs f with
   |some (o,s,_)=>bif Nat.ble 1 s then ok (.wptr c (off+o)) else none
   |none=>none
  |_=>none
 | .lptr c off=>match ti.desc with
  | .struct fs=>match z1j fs f with
   |some (o,s,_)=>bif Nat.ble 1 s then ok (.lptr c (off+o)) else none
   |none=>none
  |_=>none
 |_=>none
def z5w (ti:TI) (f:Nat):AV→Option Res
 | .d (.agg l)=>match ti.desc with
  | .struct fs=>match z1j fs f with
   |some (o,s,a)=>match part l o s with
    |some c=>(z4m a c).bind ok
    |none=>none
   |none=>none
  |_=>none
 | .agg l=>match ti.desc with
  | .struct fs=>match z1j fs f with
   |some (o,s,a)=>match part l o s with
    |some c=>(z5m a c).bind ok
    |none=>none
   |none=>none
  |_=>none
 |_=>none
def z19 (p q:Prim) (ti:TI) (h:List AO) (r:List D):AV→AV→Option Res
 | .d (.list _ z es), .d (.int _ i)=>match ti.desc with
  | .slc _ esz _ _ _=>bif Nat.beq z esz then some ⟨q.cmp .geq i 0, .lptr r 0,[]⟩ else none
  |_=>none
 | .slice id z off len cap, .d (.int _ i)=>match ti.desc with
  | .slc _ esz _ _ _=>bif Nat.beq z esz then some ⟨p.cmp .geq i 0&&p.cmp .lss i (p.ofNat len), .ptr id (p.add off (p.nat i)) 0,[]⟩ else none
  |_=>none
 | .bptr id off, .d (.int _ i)=>match ti.desc with
  | .arr n esz _=>match z0e h id with
   | .row _=>some ⟨q.cmp .geq i 0&&q.cmp .lss i (q.ofNat n), .bptr id (p.add off (bif Nat.beq esz 1 then q.nat i else q.mul (q.nat i) esz)),[]⟩
   |_=>some ⟨q.cmp .geq i 0&&q.cmp .lss i (q.ofNat n), .bptr id (off+i.toNat*esz),[]⟩
  |_=>none
 | .ptr id k off, .d (.int _ i)=>match ti.desc with
  | .arr n esz _=>some ⟨q.cmp .geq i 0&&q.cmp .lss i (q.ofNat n), .ptr id k (off+i.toNat*esz),[]⟩
  |_=>none
 | .wptr c off, .d (.int _ i)=>match ti.desc with
  | .arr n esz _=>some ⟨q.cmp .geq i 0&&q.cmp .lss i (q.ofNat n), .wptr c (p.add off (bif Nat.beq esz 1 then q.nat i else q.mul (q.nat i) esz)),[]⟩
  |_=>none
 | .lptr c off, .d (.int _ i)=>match ti.desc with
  | .arr n esz _=>some ⟨q.cmp .geq i 0&&q.cmp .lss i (q.ofNat n), .lptr c (off+i.toNat*esz),[]⟩
  |_=>none
 |_,_=>none
def z5v (p q:Prim) (ti:TI):AV→AV→Option Res
 | .d (.agg l), .d (.int _ i)=>match ti.desc with
  | .arr n esz a=>match part l (i.toNat*esz) esz with
   |some c=>(z4m a c).bind fun v=>some ⟨q.cmp .geq i 0&&q.cmp .lss i (q.ofNat n),v,[]⟩
   |none=>none
  |_=>none
 | .agg l, .d (.int _ i)=>match ti.desc with
  | .arr n esz a=>match part l (i.toNat*esz) esz with
   |some c=>(z5m a c).bind fun v=>some ⟨q.cmp .geq i 0&&q.cmp .lss i (q.ofNat n),v,[]⟩
   |none=>none
  |_=>none
 | .d (.str s), .d (.int _ i)=>match ti.desc with
  | .str=>some ⟨p.cmp .geq i 0&&p.cmp .lss i (p.ofNat (p.slen s)), .d (.int .u8 (p.byte s i)),[]⟩
  |_=>none
 |_,_=>none
def z05 (p:Prim):List SK→List D→List D→Option Bool
 |[],[],[]=>some true
 | .i::ks, .int k a::x, .int k' b::y=>bif k==k' then match z05 p ks x y with
   |some r=>some (p.cmp .eql a b&&r)
   |none=>none
  else none
 | .b::ks, .bool a::x, .bool b::y=>match z05 p ks x y with
   |some r=>some (p.bEq a b&&r)
   |none=>none
 | .s::ks, .str a::x, .str b::y=>match z05 p ks x y with
   |some r=>some (p.strEq a b&&r)
   |none=>none
 |_,_,_=>none
def x0t (ti:TI):AV→AV→Option Bool
 | .d .nilf, .d .nilf=>match ti.desc with| .func=>some true|_=>none
 | .d .nilf, .clo _ _ _=>match ti.desc with| .func=>some false|_=>none
 | .clo _ _ _, .d .nilf=>match ti.desc with| .func=>some false|_=>none
 | .d .nilp, .d .nilp=>match ti.desc with| .ptr _=>some true|_=>none
 | .d .nilp, .bptr _ _=>match ti.desc with| .ptr _=>some false|_=>none
 | .bptr _ _, .d .nilp=>match ti.desc with| .ptr _=>some false|_=>none
 | .d .nili, .d .nili=>none
 | .iface _ _, .d .nili=>match ti.desc with| .iface=>some false|_=>none
 | .d .nili, .iface _ _=>match ti.desc with| .iface=>some false|_=>none
 |_,_=>none
def eqA (p:Prim) (ti:TI) (x y:AV):Option Bool:=
 match ti.eqk,x,y with
 |some ks, .d a, .d b=>bif (z1h a==ti.agg)&&(z1h b==ti.agg) then z05 p ks (z0q a) (z0q b) else none
 |_,x,y=>x0t ti x y
def y7o (p:Prim) (ti:TI) (op:BinOp) (x y:AV):Option Res:=
 match x,y with
 | .d (.int k a), .d (.int k' b)=>
  match z9n op with
  | .arith=>bif k==k' then ok (.d (.int k (p.ar op k a b))) else none
  | .bits=>bif k==k' then ok (.d (.int k (p.ar op k a b))) else none
  | .divs=>bif k==k' then some ⟨p.cmp .neq b 0, .d (.int k (p.ar op k a b)),[]⟩ else none
  | .shift=>some ⟨p.cmp .geq b 0, .d (.int k (p.ar op k a b)),[]⟩
  | .comp=>bif k==k' then ok (.d (.bool (p.cmp op a b))) else none
 | .d (.str a), .d (.str b)=>match op with
  | .eql=>ok (.d (.bool (p.strEq a b)))
  | .neq=>ok (.d (.bool (!p.strEq a b)))
  | .add=>some ⟨p.leN (p.add (p.slen a) (p.slen b)) 1000000, .d (.str (p.scat a b)),[]⟩
  |_=>none
 |x,y=>match op with
  | .eql=>(eqA p ti x y).bind fun b=>ok (.d (.bool b))
  | .neq=>(eqA p ti x y).bind fun b=>ok (.d (.bool (!b)))
  |_=>none
def w68:Operand→Bool
 | .const (.slice none 0 0)=>true
 |_=>false
def w67:Operand→Bool
 | .const .nilIface=>true
 |_=>false
def y2p (ti:TI) (op:BinOp) (x:AV):Option Res:=
 match ti.desc,op,x with
 | .iface, .eql, .d .nili=>ok (.d (.bool true))
 | .iface, .neq, .d .nili=>ok (.d (.bool false))
 | .iface, .eql, .iface _ _=>ok (.d (.bool false))
 | .iface, .neq, .iface _ _=>ok (.d (.bool true))
 |_,_,_=>none
def z83 (p:Prim) (ti:TI) (op:BinOp) (x:AV):Option Res:=
 match ti.desc,op,x with
 | .slc .., .eql, .d (.list _ _ es)=>some ⟨p.leN 1 (p.len es), .d (.bool false),[]⟩
 | .slc .., .neq, .d (.list _ _ es)=>some ⟨p.leN 1 (p.len es), .d (.bool true),[]⟩
 | .slc .., .eql, .slice _ _ _ len _=>some ⟨p.leN 1 len, .d (.bool false),[]⟩
 | .slc .., .neq, .slice _ _ _ len _=>some ⟨p.leN 1 len, .d (.bool true),[]⟩
 |_,_,_=>none
def x26 (p:Prim) (op:UnOp):AV→Option Res
 | .d (.int k a)=>match op with
  | .neg=>ok (.d (.int k (p.ar .sub k 0 a)))
  | .xor=>ok (.d (.int k (p.ar .xor k (if k.signed then -1 else k.max) a)))
  |_=>none
 | .d (.bool b)=>match op with
  | .not=>ok (.d (.bool (!b)))
  |_=>none
 |_=>none
def z7f (p:Prim) (src dst:TI):AV→Option Res
 | .d (.int k n)=>match src.desc,dst.desc with
  | .int _, .int k'=>ok (.d (.int k' (p.cvt k' n)))
  | .int _, .str=>ok (.d (.str (p.schr n)))
  |_,_=>none
 | .d (.str s)=>match src.desc,dst.desc with
  | .str, .str=>ok (.d (.str s))
  |_,_=>none
 |_=>none
def w06 (p:Prim) (ti:TI) (h:List AO):AV→Option Res
 | .d (.list _ _ es)=>match ti.desc with
  | .slc ..=>ok (.d (.int .i64 (p.ofNat (p.len es))))
  |_=>none
 | .slice _ _ _ len _=>match ti.desc with
  | .slc ..=>ok (.d (.int .i64 (p.ofNat len)))
  |_=>none
 | .d (.str s)=>match ti.desc with
  | .str=>ok (.d (.int .i64 (p.ofNat (p.slen s))))
  |_=>none
 | .d (.agg _)=>match ti.desc with
  | .arr n _ _=>ok (.d (.int .i64 (p.ofNat n)))
  |_=>none
 | .bptr _ _=>match ti.desc with
  | .ptr (some (n,_))=>ok (.d (.int .i64 (p.ofNat n)))
  |_=>none
 | .d .nilm=>match ti.desc with
  | .map _ _ _=>ok (.d (.int .i64 0))
  |_=>none
 | .map id=>match ti.desc,z0e h id with
  | .map _ _ _, .map es=>ok (.d (.int .i64 (p.ofNat (p.mlen es))))
  |_,_=>none
 |_=>none
inductive Els where
 |d (es:List (List D))
 |a (es:List (List AV))
def z2a (p:Prim) (z:Nat) (h:List AO):AV→Option (Bool×Els)
 | .d (.list _ z' es)=>bif Nat.beq z z' then some (true, .d es) else match es with
  |[]=>some (true, .d [])
  |_=>none
 | .slice id z' off len _=>bif Nat.beq z z' then match z0e h id with
  | .row es=>some (p.leN (p.add off len) (p.len es), .d (p.cut es off len))
  | .arow es=>some (p.leN (p.add off len) es.length, .a ((es.drop off).take len))
  |_=>none
 else none
 |_=>none
def x41:List (List D)→Option (List Int)
 |[]=>some []
 |[.int .u8 n]::l=>match x41 l with
  |some r=>some (n::r)
  |none=>none
 |_=>none
def w6o (ns:List Int):ByteArray:=ns.foldl (fun r n=>r.push (UInt8.ofNat n.toNat)) ByteArray.empty
def v0s:TK→Bool
 | .int .u8=>true
 |_=>false
def z5i (p:Prim) (T:TypeId→Option TI) (h:List AO) (src dst:TI) (x:AV):Option Res:=
 match src.desc,dst.desc with
 | .slc e _ _ _ _, .str=>match T e with
  |some te=>bif v0s te.desc then match z2a p 1 h x with
    |some (c, .d es)=>match x41 es with
     |some ns=>some ⟨c, .d (.str (w6o ns)),[]⟩
     |none=>none
    |_=>none
   else none
  |none=>none
 |_,_=>none
def z56 (p:Prim):AV→Nat
 | .d (.list _ _ es)=>p.len es
 | .slice _ _ _ len _=>len
 |_=>0
def Els.app (p:Prim):Els→Els→AO
 | .d x, .d y=> .row (p.app x y)
 | .d x, .a y=> .arow (z4c x++y)
 | .a x, .d y=> .arow (x++z4c y)
 | .a x, .a y=> .arow (x++y)
def z3w (l:List (List AV)) (i:Nat) (xs:List (List AV)):List (List AV):=l.take i++xs++l.drop (i+xs.length)
def x3f (p:Prim) (o:AO) (i:Nat) (x:Els):Option AO:=
 match o,x with
 | .row es, .d xs=>some (.row (p.splice es i xs))
 | .row es, .a xs=>some (.arow (z3w (z4c es) i xs))
 | .arow es, .d xs=>some (.arow (z3w es i (z4c xs)))
 | .arow es, .a xs=>some (.arow (z3w es i xs))
 |_,_=>none
def w7b (p:Prim):AO→Nat
 | .row es=>p.len es
 | .arow es=>es.length
 |_=>0
def z3l (p:Prim) (s x:AV):Option Bool:=
 match s with
 | .d (.list full _ _)=>some full
 | .slice _ _ _ len (some c)=>some (p.leN (p.add len (z56 p x)) c)
 |_=>none
def y1v:Nat:=1000000
def w3k:List D→Nat→Bool
 |[],_=>false
 |_::_,0=>false
 |_::_,_+1=>true
def z1t (p:Prim) (ti:TI) (h:List AO) (new:Nat) (q:Bool) (r:List D) (s x:AV):Option Res:=
 match ti.desc with
 | .slc _ z eb _ _=>bif Nat.ble 1 z&&Nat.ble eb 60000 then match z2a p z h x,z2a p z h s with
  |some (cx,xs),some (cs,es)=>
   match s with
   | .d (.list _ zs _)=>match q with
    |true=>bif w3k r zs then match es,xs with
      | .d e, .d y=>some ⟨p.and cx (p.and (p.leN 1 (z56 p x)) (p.leN (p.add (z56 p s) (z56 p x)) y1v)), .d (.list false z (p.app e y)),[]⟩
      |_,_=>none
     else some ⟨p.and cx (p.and (p.leN 1 (z56 p x)) (p.leN (p.add (z56 p s) (z56 p x)) y1v)), .slice new z 0 (p.add (z56 p s) (z56 p x)) none,[(new,Els.app p es xs)]⟩
    |false=>none
   | .slice id _ off len none=>some ⟨p.and cx (p.and cs (p.and (p.leN 1 (z56 p x)) (p.leN (p.add len (z56 p x)) y1v))), .slice new z 0 (p.add len (z56 p x)) none,[(id, .dead),(new,Els.app p es xs)]⟩
   | .slice id _ off len (some c)=>match q with
    |true=>match x3f p (z0e h id) (p.add off len) xs with
     |some o=>some ⟨p.and cx (p.and cs (p.and (p.leN 1 (z56 p x)) (p.leN (p.add off c) (w7b p (z0e h id))))), .slice id z off (p.add len (z56 p x)) (some c),[(id,o)]⟩
     |none=>none
    |false=>some ⟨p.and cx (p.and cs (p.and (p.leN 1 (z56 p x)) (p.leN (p.add len (z56 p x)) y1v))), .slice new z 0 (p.add len (z56 p x)) none,[(new,Els.app p es xs)]⟩
   |_=>none
  |_,_=>none
 else none
 |_=>none
def y3m:AV→Option (Nat×Nat×Nat×Nat)
 | .slice id z off len _=>some (id,z,off,len)
 |_=>none
def y9y:AO→Option (List (List D))
 | .row es=>some es
 |_=>none
def two:List D→Bool
 |[_,_]=>true
 |_=>false
def x2s:List (Nat×AO)→Nat→Option AO→Option AO
 |[],_,a=>a
 |(i,o)::r,id,a=>x2s r id (bif Nat.beq i id then some o else a)
def y15 (p:Prim) (r:List D) (res:Res):Res:=
 bif two r then match y3m res.v with
  |some (id,z,off,len)=>match x2s res.u id none with
   |some o=>match y9y o with
    |some es=>⟨p.and res.c (p.leN (p.add off len) (p.len es)), .d (.list false z (p.cut es off len)),res.u++[(id, .dead)]⟩
    |none=>res
   |none=>res
  |none=>res
 else res
def zer:List D→Bool
 |_::_::_=>true
 |_=>false
def x29:AV→Option (Nat×Nat×Nat×Nat×Nat)
 | .slice id z off len (some c)=>some (id,z,off,len,c)
 |_=>none
def v1j:Els→Option (List (List D))
 | .d x=>some x
 | .a _=>none
def y2b (p:Prim) (ti:TI) (h:List AO) (s x:AV):Option Res:=
 match ti.desc with
 | .slc _ z eb _ _=>bif Nat.ble 1 z&&Nat.ble eb 60000 then
   match x29 s with
   |some (id,_,off,len,c)=>match z2a p z h x with
    |some (cx,xs)=>match z2a p z h s with
     |some (cs,_)=>match y9y (z0e h id) with
      |some es=>match v1j xs with
       |some ys=>some ⟨p.and cx (p.and cs (p.leN (p.add off c) (p.len es))), .slice id z off (p.add len (z56 p x)) (some c),[(id, .row (p.splice es (p.add off len) ys))]⟩
       |none=>none
      |none=>none
     |none=>none
    |none=>none
   |none=>none
  else none
 |_=>none
def z2n (p:Prim) (ti:TI) (h:List AO) (new:Nat) (q:Bool) (r:List D) (s x:AV):Option Res:=
 (match (bif zer r&&q then y2b p ti h s x else none) with
  |some res=>some res
  |none=>z1t p ti h new q r s x).map (y15 p r)
def w7r:List D→Bool
 |[_,_,_,_,_]=>true
 |_=>false
def x1r (p:Prim) (ti:TI) (h:List AO) (s x:AV):Option Res:=
 match ti.desc with
 | .slc _ z eb _ _=>bif Nat.ble 1 z&&Nat.ble eb 60000 then
   match y3m s with
   |some _=>match z2a p z h x with
    |some (cx,_)=>match z2a p z h s with
     |some (cs,_)=>some ⟨p.and cx (p.and cs (p.leN (z56 p x) 0)),s,[]⟩
     |none=>none
    |none=>none
   |none=>none
  else none
 |_=>none
def z2m (p:Prim) (ti:TI) (h:List AO) (new:Nat) (q:Bool) (r:List D) (s x:AV):Option Res:=
 bif w7r r then x1r p ti h s x else z2n p ti h new q r s x
def z47 (p:Prim) (ti:TI) (new:Nat) (l c:AV):Option Res:=
 match ti.desc,l,c with
 | .slc _ z eb _ ez, .d (.int _ l), .d (.int _ c)=>bif Nat.ble 1 z&&(Nat.ble eb 60000&&z58 (toA ez)) then
   some ⟨p.and (p.cmp .geq l 0) (p.and (p.cmp .leq l c) (p.cmp .leq c 1000000)), .slice new z 0 (p.nat l) (some (p.nat c)),[(new, .row (p.rep (p.nat c) ez))]⟩
  else none
 |_,_,_=>none
def w25:Option AV→Option (Option Int)
 |none=>some none
 |some (.d (.int _ n))=>some (some n)
 |_=>none
def z3c (x:Option Int) (d:Int):Int:=
 match x with
 |some n=>n
 |none=>d
def w3h (p:Prim) (x:Option Nat) (n:Nat):Option Nat:=
 match x with
 |some c=>some (p.sub c n)
 |none=>none
def w1o (ti:TI):AV→AV
 | .d (.list f z es)=>match ti.desc with
  | .slc _ z' _ _ _=>bif Nat.beq z 0 then match es with
    |[]=> .d (.list f z' [])
    |_::_=> .d (.list f z es)
   else .d (.list f z es)
  |_=> .d (.list f z es)
 |x=>x
def z5h (p:Prim) (ti:TI) (h:List AO) (r:List D) (x:AV) (lo hi mx:Option AV):Option Res:=
 match w25 lo,w25 hi,w25 mx with
 |some lo,some hi,some mx=>
  match x with
  | .d (.list full z es)=>match ti.desc with
   | .slc _ z' _ _ _=>bif Nat.beq z z' then match mx with
    |none=>
     let h:=z3c hi (p.ofNat (p.len es))
     let l:=z3c lo 0
     some ⟨p.and (p.cmp .geq l 0) (p.and (p.cmp .leq l h) (p.cmp .leq h (p.ofNat (p.len es)))), .d (.list (p.and full (p.cmp .eql h (p.ofNat (p.len es)))) z (p.cut es (p.nat l) (p.sub (p.nat h) (p.nat l)))),[]⟩
    |some m=>match hi with
     |some h=>
      let l:=z3c lo 0
      some ⟨p.and (p.cmp .geq l 0) (p.and (p.cmp .leq l h) (p.and (p.cmp .leq h m) (p.cmp .leq m (p.ofNat (p.len es))))), .d (.list (p.cmp .eql h m) z (p.cut es (p.nat l) (p.sub (p.nat h) (p.nat l)))),[]⟩
     |none=>none
    else none
   |_=>none
  | .slice id z off len cap=>match ti.desc with
   | .slc _ z' _ _ _=>bif Nat.beq z z' then match mx with
    |none=>
     let h:=z3c hi (p.ofNat len)
     let l:=z3c lo 0
     some ⟨p.and (p.cmp .geq l 0) (p.and (p.cmp .leq l h) (p.cmp .leq h (p.ofNat len))), .slice id z (p.add off (p.nat l)) (p.sub (p.nat h) (p.nat l)) (w3h p cap (p.nat l)),[]⟩
    |some m=>match hi with
     |some h=>
      let l:=z3c lo 0
      some ⟨p.and (p.cmp .geq l 0) (p.and (p.cmp .leq l h) (p.and (p.cmp .leq h m) (p.cmp .leq m (p.ofNat len)))), .slice id z (p.add off (p.nat l)) (p.sub (p.nat h) (p.nat l)) (some (p.sub (p.nat m) (p.nat l))),[]⟩
     |none=>none
    else none
   |_=>none
  | .bptr id off=>match ti.desc,lo,hi,mx with
   | .arr n esz _,none,none,none=>match z0e h id,r with
    | .row _,[_]=>bif Nat.beq esz 1 then some ⟨true, .slice id 1 off n (some n),[]⟩ else none
    |_,_=>none
   | .arr n esz _,lo,hi,none=>match z0e h id,r with
    | .row _,[_]=>bif Nat.beq esz 1 then
      let h:=z3c hi (p.ofNat n)
      let l:=z3c lo 0
      some ⟨p.and (p.cmp .geq l 0) (p.and (p.cmp .leq l h) (p.cmp .leq h (p.ofNat n))), .slice id 1 (p.add off (p.nat l)) (p.sub (p.nat h) (p.nat l)) (some (p.sub n (p.nat l))),[]⟩ else none
    |_,_=>none
   |_,_,_,_=>none
  | .d (.str s)=>match ti.desc,mx with
   | .str,none=>
    let h:=z3c hi (p.ofNat (p.slen s))
    let l:=z3c lo 0
    some ⟨p.and (p.cmp .geq l 0) (p.and (p.cmp .leq l h) (p.cmp .leq h (p.ofNat (p.slen s)))), .d (.str (p.scut s (p.nat l) (p.nat h))),[]⟩
   |_,_=>none
  |_=>none
 |_,_,_=>none
def z5x (p:Prim) (ti:TI) (h:List AO) (d s:AV):Option Res:=
 match ti.desc with
 | .slc _ z _ _ _=>bif Nat.ble 1 z then match z2a p z h s,d with
  |some (c, .d xs), .slice id z' off len _=>bif Nat.beq z z' then match z0e h id with
   | .row es=>some ⟨p.and c (p.and (p.leN (z56 p s) len) (p.leN (p.add off len) (p.len es))), .d (.int .i64 (p.ofNat (z56 p s))),[(id, .row (p.splice es off xs))]⟩
   |_=>none
   else none
  |some (c, .d _), .d (.list _ _ [])=>some ⟨c, .d (.int .i64 0),[]⟩
  |_,_=>none
  else none
 |_=>none
def z4r (p:Prim) (ti:TI) (h:List AO) (x:AV):Option Res:=
 match ti.desc with
 | .slc _ z _ _ ez=>bif Nat.ble 1 z&&z58 (toA ez) then match x with
  | .slice id z' off len _=>bif Nat.beq z z' then match z0e h id with
   | .row es=>some ⟨p.leN (p.add off len) (p.len es), .tuple [],[(id, .row (p.splice es off (p.rep len ez)))]⟩
   |_=>none
   else none
  | .d (.list _ _ [])=>ok (.tuple [])
  |_=>none
  else none
 |_=>none
def y1c (p:Prim) (op:BinOp):List AV→Option Res
 |[.d (.int k a), .d (.int _ b)]=>ok (.d (.int k (p.mm op a b)))
 |[.d (.int k a), .d (.int _ b), .d (.int _ c)]=>ok (.d (.int k (p.mm op (p.mm op a b) c)))
 |[.d (.int k a)]=>ok (.d (.int k a))
 |_=>none
def y7k (c a b:AV):Option Res:=
 match c with
 | .d (.bool true)=>ok a
 | .d (.bool false)=>ok b
 |_=>none
def z9v (x:AV) (i:Nat):Option Res:=
 match x with
 | .tuple vs=>(z1j vs i).bind ok
 |_=>none
def y0p (k:IntKind):List D→Bool
 |[]=>true
 | .int k' (.ofNat 0)::l=>(k'==k)&&y0p k l
 |_=>false
def x6t (ti:TI):Option IntKind:=
 bif Nat.ble 20 ti.size then match ti.zero with
  | .int k _::_=>bif y0p k ti.zero then some k else none
  |_=>none
 else none
def y0n (p:Prim) (ti:TI) (new:Nat):Option Res:=
 bif Nat.ble 1 ti.size then match x6t ti with
  |some k=>some ⟨true, .bptr new 0,[(new, .row (p.rep ti.size [.int k 0]))]⟩
  |none=>some ⟨true, .bptr new 0,[(new, .box (toA ti.zero))]⟩
 else none
def y39:List D→Bool
 |[]=>true
 |x::l=>w4t x&&y39 l
def y7n (ti:TI) (new:Nat) (x:AV):Option Res:=
 bif Nat.ble 1 ti.size then match z1w x with
  |some l=>bif z60 l ti.size then match x6t ti with
    |some _=>match y8x l with
     |some ds=>bif y39 ds then some ⟨true, .bptr new 0,[(new, .row (x7t ds))]⟩ else none
     |none=>none
    |none=>some ⟨true, .bptr new 0,[(new, .box l)]⟩
   else none
  |none=>none
 else none
def x1p:AV→Option Res
 | .bptr id off=>ok (.bptr id off)
 | .ptr id i off=>ok (.ptr id i off)
 | .wptr r off=>ok (.wptr r off)
 | .lptr r off=>ok (.lptr r off)
 |_=>none
def y00 (env:List (Nat×AV)):List (Nat×Operand)→List (Nat×AV)
 |[]=>[]
 |(i,x)::r=>(i,z0j env x)::y00 env r
def z74 (env:List (Nat×AV)):Option Operand→Option AV
 |none=>none
 |some x=>some (z0j env x)
def z4w (p:Prim) (ks:List SK) (ka:Bool) (k:D):List (D×D)→Nat→Option (Option (Nat×D))
 |[],_=>some none
 |(k',v)::r,i=>bif (z1h k==ka)&&(z1h k'==ka) then match z05 p ks (z0q k) (z0q k') with
   |some true=>some (some (i,v))
   |some false=>z4w p ks ka k r (i+1)
   |none=>none
  else none
def z2k (p:Prim) (ti:TI) (h:List AO) (m k:AV):Option (Option (Nat×D)):=
 match ti.desc,k with
 | .map ks ka _, .d k=>bif (z1h k==ka)&&z04 ks (z0q k) then match m with
  | .d .nilm=>some none
  | .map id=>match z0e h id with
   | .map es=>z4w p ks ka k es 0
   |_=>none
  |_=>none
  else none
 |_,_=>none
def z4e (ti:TI) (q:Bool) (r:List D) (commaOk:Bool):Option Res:=
 match ti.desc with
 | .map _ _ ez=>match q,r with
  |true,[_,v]=>ok (bif commaOk then .tuple [.d v, .d (.bool true)] else .d v)
  |false,_=>ok (bif commaOk then .tuple [.d ez, .d (.bool false)] else .d ez)
  |_,_=>none
 |_=>none
def z3m (p:Prim) (ti:TI) (h:List AO) (q:Bool) (r:List D) (m k x:AV):Option Res:=
 match ti.desc,m,k,x with
 | .map _ _ _, .map id, .d k, .d x=>match z0e h id with
  | .map es=>match q,r with
   |true,[.int _ i,_]=>some ⟨true, .bot,[(id, .map (p.mset es (p.nat i) k x))]⟩
   |false,_=>some ⟨true, .bot,[(id, .map (p.madd es k x))]⟩
   |_,_=>none
  |_=>none
 |_,_,_,_=>none
def z3n (p:Prim) (ti:TI) (h:List AO) (q:Bool) (r:List D) (m:AV):Option Res:=
 match ti.desc,m with
 | .map _ _ _, .map id=>match z0e h id with
  | .map es=>match q,r with
   |true,[.int _ i,_]=>some ⟨true, .tuple [],[(id, .map (p.mdel es (p.nat i)))]⟩
   |false,_=>some ⟨true, .tuple [],[(id, .map es)]⟩
   |_,_=>none
  |_=>none
 |_,_=>none
def z7d (new:Nat) (hint:Option AV):Option Res:=
 match hint with
 |none=>some ⟨true, .map new,[(new, .map [])]⟩
 |_=>none
def z2l (p:Prim) (T:TypeId→Option TI) (h:List AO) (new:Nat) (q:Bool) (r:List D) (b:Builtin) (ts:List TypeId) (xs:List AV):Option Res:=
 match b,ts,xs with
 | .len,[t],[x]=>match T t with
  |some ti=>w06 p ti h x
  |none=>none
 | .append,[t,t2],[s,x]=>match T t,T t2 with
  |some ti,some ti2=>match ti2.desc with
   | .slc _ _ _ _ _=>z2m p ti h new q r s x
   |_=>none
  |_,_=>none
 | .copy,t::_,[d,x]=>match T t with
  |some ti=>z5x p ti h d x
  |none=>none
 | .delete,t::_,[m,_]=>match T t with
  |some ti=>z3n p ti h q r m
  |none=>none
 | .clear,t::_,[x]=>match T t with
  |some ti=>z4r p ti h x
  |none=>none
 | .min,_,xs=>y1c p .lss xs
 | .max,_,xs=>y1c p .gtr xs
 |_,_,_=>none
def y7f:AV→AV
 | .d (.ref r)=> .lptr r 0
 |x=>x
def pOf (p:Prim):Operand→Prim
 | .const _=>std
 |_=>p
def y01 (G:Nat→Option (List D)) (env:List (Nat×AV)):Operand→AV
 | .global g=>match G g with
  |some cells=> .lptr cells 0
  |none=> .bot
 |x=>z0j env x
def z8c (T:TypeId→Option TI):List Oper→List (Nat×AV)→List (Nat×List D)→List (Nat×List D)
 |[],_,acc=>acc
 |o::l,env,acc=>match o.op,o.dst with
  | .build t ps,some d=>match T t with
   |some ti=>match z8b ti (y00 env ps.toList) with
    |some res=>z8c T l ((d,res.v)::env) acc
    |none=>z8c T l env acc
   |none=>z8c T l env acc
  | .store _ (.global g) x,_=>match z0j env x with
   | .d (.agg cells)=>z8c T l env (bif y3x cells then (g,cells)::acc else acc)
   | .d d=>z8c T l env (bif z6v d then (g,[d])::acc else acc)
   |_=>z8c T l env acc
  |_,_=>z8c T l env acc
def x7b (T:TypeId→Option TI):Code→List (Nat×List D)→List (Nat×List D)
 | .seq a b,acc=>x7b T b (x7b T a acc)
 | .region _ ops _,acc=>z8c T ops.toList [] acc
 | .block _ c,acc=>x7b T c acc
 | .scope c,acc=>x7b T c acc
 |_,acc=>acc
def w4p:List (Nat×List D)→Nat→Option (List D)
 |[],_=>none
 |(g,c)::l,h=>bif Nat.beq g h then some c else w4p l h
def x6u (P:Program):List (Nat×List D):=
 match P.funcs.back? with
 |some f=>match f.body with
  |some c=>x7b (w69 P) c []
  |none=>[]
 |none=>[]
def z94 (P:Program) (g:Nat):Option (List D):=w4p (x6u P) g
def z08 (p:Prim) (T:TypeId→Option TI) (G:Nat→Option (List D)) (env:List (Nat×AV)) (h:List AO) (new:Nat) (q:Bool) (r:List D) (ra:List AV) (op:Op):Option Res:=
 match op with
 | .move x=>ok (z0j env x)
 | .assign x=>ok (z0j env x)
 | .pick c a b=>y7k (z0j env c) (z0j env a) (z0j env b)
 | .alloc t=>match T t with
  |some ti=>y0n p ti new
  |none=>none
 | .box t x=>match T t with
  |some ti=>y7n ti new (z0j env x)
  |none=>none
 | .build t ps=>match T t with
  |some ti=>z8b ti (y00 env ps.toList)
  |none=>none
 | .buildSlice t len ps=>match T t with
  |some ti=>z3v ti new len (y00 env ps.toList) r
  |none=>none
 | .load t a=>match T t with
  |some ti=>z3u ti h r ra (y7f (y01 G env a))
  |none=>none
 | .store t a x=>match T t with
  |some ti=>z4q p ti h r ra (z0j env a) (z0j env x)
  |none=>none
 | .nilCheck x=>x1p (y7f (z0j env x))
 | .binOp op t x y _=>match T t with
  |some ti=>bif w68 y then z83 p ti op (z0j env x) else bif w67 y then y2p ti op (z0j env x) else y7o p ti op (z0j env x) (z0j env y)
  |none=>none
 | .unOp op _ x=>x26 p op (z0j env x)
 | .convert s t x=>match T s,T t with
  |some ts,some tt=>match z7f p ts tt (z0j env x) with
   |some res=>some res
   |none=>z5i p T h ts tt (z0j env x)
  |_,_=>none
 | .makeFunc fn f c=>ok (.clo fn (z0s env f.toList) (z0s env c.toList))
 | .makeSlice t l c=>match T t with
  |some ti=>z47 p ti new (z0j env l) (z0j env c)
  |none=>none
 | .slice t x lo hi mx=>match T t with
  |some ti=>z5h p ti h r (w1o ti (z0j env x)) (z74 env lo) (z74 env hi) (z74 env mx)
  |none=>none
 | .fieldAddr t x f=>match T t with
  |some ti=>y0l ti f (y7f (y01 G env x))
  |none=>none
 | .field t x f=>match T t with
  |some ti=>z5w ti f (z0j env x)
  |none=>none
 | .indexAddr t x i=>match T t with
  |some ti=>z19 p (pOf p i) ti h r (y01 G env x) (z0j env i)
  |none=>none
 | .index t x i=>match T t with
  |some ti=>z5v p (pOf p i) ti (z0j env x) (z0j env i)
  |none=>none
 | .extract x i=>z9v (z0j env x) i
 | .call ⟨.builtin b,args,ts⟩=>z2l p T h new q r b ts.toList (z0s env args.toList)
 | .makeMap t n=>match T t with
  |some ti=>z7d new (z74 env n)
  |none=>none
 | .lookup t m k o=>match T t with
  |some ti=>match ti.desc with
   | .map _ _ _=>z4e ti q r o
   |_=>none
  |none=>none
 | .mapUpdate t m k x=>match T t with
  |some ti=>z3m p ti h q r (z0j env m) (z0j env k) (z0j env x)
  |none=>none
 |_=>none
inductive x97 where
 |none
 |d (es:List (List D)) (i:Nat)
 |n (es:List (List D)) (i n:Nat)
 |a (es:List (List AV)) (i:Nat)
 |b (x:Bool)
 |m (x:Option (Option (Nat×D)))
def z79 (h:List AO) (n:Nat):AV→x97
 | .bptr id off=>match z0e h id with
  | .row es=> .n es off n
  |_=> .none
 | .wptr es off=> .n es off n
 | .ptr id i _=>match z0e h id with
  | .row es=> .d es i
  | .arow es=> .a es i
  |_=> .none
 |_=> .none
def z3f (h:List AO):AV→x97
 | .bptr id off=>match z0e h id with
  | .row es=> .n es off 1
  |_=> .none
 |_=> .none
def w9q (T:TypeId→Option TI) (t:TypeId):Nat:=
 match T t with
 |some ti=>ti.size
 |none=>0
def w3w (p:Prim):AV→AV→x97
 | .d (.list _ _ es), .d (.int _ i)=> .d es (p.nat i)
 |_,_=> .none
def w3x (x:Option Bool):x97:=
 match x with
 |some b=> .b b
 |none=> .none
def y0i (p:Prim) (T:TypeId→Option TI) (t:TypeId) (h:List AO) (m k:AV):x97:=
 match T t with
 |some ti=> .m (z2k p ti h m k)
 |none=> .m none
def z1q (p:Prim) (T:TypeId→Option TI) (env:List (Nat×AV)) (h:List AO) (op:Op):x97:=
 match op with
 | .load t a=>z79 h (w9q T t) (y7f (z0j env a))
 | .store _ a _=>z79 h 1 (z0j env a)
 | .slice _ x _ _ _=>z3f h (z0j env x)
 | .indexAddr _ x i=>w3w p (z0j env x) (z0j env i)
 | .call ⟨.builtin .append,args,_⟩=>match z0s env args.toList with
  |[s,x]=>w3x (z3l p s x)
  |_=> .none
 | .call ⟨.builtin .delete,args,ts⟩=>match ts.toList,z0s env args.toList with
  |t::_,[m,k]=>y0i p T t h m k
  |_,_=> .m none
 | .lookup t m k _=>y0i p T t h (z0j env m) (z0j env k)
 | .mapUpdate t m k _=>y0i p T t h (z0j env m) (z0j env k)
 |_=> .none
def y1y (es:List (List D)) (i:Nat) (r:List D):Prop:=∀ (j:Nat) (x:D),r[j]?=some x→x9x es (i+j) [x]
def x97.ok (q:Bool) (r:List D) (ra:List AV):x97→Prop
 | .none=>True
 | .d es i=>x9x es i r
 | .n es i _=>y1y es i r
 | .a es i=>es[i]?=some ra
 | .b x=>x=q
 | .m x=>(x=some Option.none∧q=false)∨∃ i v v',x=some (some (i,v))∧v15 v v'∧q=true∧r=[.int .i64 (i:Nat),v']
end Go.Am
end
section
namespace Go.Am
variable {P:Program}
def w6n:Code→Bool→Option Code
 | .seq a _,false=>some a
 | .seq _ b,true=>some b
 | .cond _ a _,false=>some a
 | .cond _ _ b,true=>some b
 | .block _ c,false=>some c
 | .loop c,false=>some c
 | .scope c,false=>some c
 | .rangeFunc _ _ a _,false=>some a
 | .rangeFunc _ _ _ b,true=>some b
 |_,_=>none
def w3i (P:Program) (g:Nat):Option Code:=(P.funcs[g]?).bind (·.body)
def z3r (P:Program) (g:Nat):List Bool→Option Code
 |[]=>w3i P g
 |b::l=>(z3r P g l).bind (w6n · b)
def z2s (en:Array MapEntry) (clk:Nat):Prop:=(∀ x∈en.toList,x.born<clk)∧(en.toList.map (·.born)).Nodup
theorem z2s.empty (clk:Nat):z2s #[] clk:=⟨by simp,by simp⟩
theorem z2s.push {en:Array MapEntry} {clk:Nat} (h:z2s en clk) (k v:Value):z2s (en.push { key:=k,val:=v,born:=clk }) (clk+1):=by
 refine ⟨fun x hx=>?_,?_⟩
 ·simp only [Array.toList_push,eBj,eBe] at hx
  rcases hx with hx|rfl
  ·exact Nat.lt_succ_of_lt (h.1 x hx)
  ·exact Nat.lt_succ_self _
 ·simp only [Array.toList_push,List.map_append,List.map_cons,List.map_nil]
  refine List.nodup_append.2 ⟨h.2,by simp,fun a ha b hb=>?_⟩
  obtain ⟨x,hx,rfl⟩:=eBb.1 ha
  simp only [eBe] at hb
  subst hb
  exact Nat.ne_of_lt (h.1 x hx)
theorem z2s.modify {en:Array MapEntry} {clk:Nat} (h:z2s en clk) (i:Nat) (k v:Value):z2s (en.modify i fun e=>{ key:=k,val:=v,born:=e.born }) clk:=by
 have e1:(en.modify i fun e=>{ key:=k,val:=v,born:=e.born }).toList.map (·.born)=en.toList.map (·.born):=by
  apply eBd
  intro j
  simp only [eAg,eAj,eBr]
  split
  ·rename_i hij; subst hij; cases en[i]?<;>rfl
  ·rfl
 refine ⟨fun x hx=>?_,by rw [e1]; exact h.2⟩
 have:x.born∈en.toList.map (·.born):=by rw [←e1]; exact eBb.2 ⟨x,hx,rfl⟩
 obtain ⟨y,hy,e⟩:=eBb.1 this
 rw [←e]; exact h.1 y hy
theorem z2s.erase {en:Array MapEntry} {clk:Nat} (h:z2s en clk) (i:Nat):z2s (en.eraseIdxIfInBounds i) clk:=by
 have e1:(en.eraseIdxIfInBounds i).toList=en.toList.eraseIdx i:=by
  unfold Array.eraseIdxIfInBounds
  split
  ·simp
  ·rename_i hge; rw [List.eraseIdx_of_length_le (by simpa using hge)]
 refine ⟨fun x hx=>h.1 x ?_,?_⟩
 ·rw [e1] at hx; exact List.mem_of_mem_eraseIdx hx
 ·rw [e1]; exact h.2.sublist ((List.eraseIdx_sublist _ _).map _)
def z0u (P:Program) (ρ:Rho) (O:Nat→Prop) (w:World) (L:Loc):AO→Prop
 | .dead=>True
 | .box cells=>L.base=0∧∃ (c:Array Value) (t:TypeId),w.heap[L.blk]?=some (.cells c t (0,0))∧∀ (j:Nat) (x:AV),cells[j]?=some x→∃ v:Value,c[L.base+j]?=some v∧z0i ρ O w x v
 | .row es=>0<L.esz∧∃ (c:Array Value) (t:TypeId),w.heap[L.blk]?=some (.cells c t (0,0))∧(∀ (i:Nat) (r:List D),es[i]?=some r→r.length=L.esz)∧
   ∀ (i:Nat) (r:List D) (j:Nat) (x:D),es[i]?=some r→r[j]?=some x→∃ v:Value,c[L.base+i*L.esz+j]?=some v∧v.oneCell'=true∧z02 O w x v
 | .arow es=>0<L.esz∧∃ (c:Array Value) (t:TypeId),w.heap[L.blk]?=some (.cells c t (0,0))∧(∀ (i:Nat) (r:List AV),es[i]?=some r→r.length=L.esz)∧
   ∀ (i:Nat) (r:List AV) (j:Nat) (x:AV),es[i]?=some r→r[j]?=some x→∃ v:Value,c[L.base+i*L.esz+j]?=some v∧v.oneCell'=true∧z0i ρ O w x v
 | .map es=>∃ (en:Array MapEntry) (clk:Nat),w.heap[L.blk]?=some (.map en clk)∧(en.size=es.length∧z2s en clk)∧
   ∀ (i:Nat) (k x:D),es[i]?=some (k,x)→∃ e:MapEntry,en[i]?=some e∧z02 O w k e.key∧z02 O w x e.val
 | .loop st pd g pos nt env=>∃ (x:Operand) (ps:Array Tmp) (asg body:Code),z3r P g pos=some (.rangeFunc x ps asg body)∧∃ (tm:Array Value) (ds:Nat) (f:FuncId),w.heap[L.blk]?=some (.loop { state:=st,pending:=pd,fn:=f,tmps:=tm,params:=ps,assign:=asg,body:=body,defers:=ds })∧
   tm.size=nt∧∀ t,z0i ρ O w (z1k env t) (tm.getD t undef)
def z9l (P : Program) (g : Nat) : Option Bool :=
 if P.globalNamed "internal/bytealg.MaxLen" = some g then some true
 else if P.globalNamed "strconv.ErrSyntax" = some g ∨ P.globalNamed "strconv.ErrRange" = some g then some false else none
def w8u:Bool→Value→Prop
 |true,v=>∃ n,v= .int .i64 n
 |false,v=>v= .nilIface∨∃ t p,v= .iface t p
structure GL (P:Program) (O:Nat→Prop) (w:World):Prop where
 lay:∀ (g:Nat) (cells:List D),z94 P g=some cells→g<w.heap.size∧¬ O g∧z0t w g=some cells.length∧
  ∀ (k:Nat) (x:D),cells[k]?=some x→∃ v,w.cell? ⟨g,k,none⟩=some v∧∀ (O':Nat→Prop) (w':World),z02 O' w' x v
 shp:∀ (g:Nat) (b:Bool),z9l P g=some b→g<w.heap.size∧¬ O g∧∃ v,w.cell? ⟨g,0,none⟩=some v∧w8u b v
theorem GL.keep {O O':Nat→Prop} {w w':World} (k:z3s O O' w w') (h:GL P O w):GL P O' w' where
 lay:=fun g cells hg=>by
  obtain ⟨a,b,s,c⟩:=h.lay g cells hg
  refine ⟨eAn a k.size,fun ho=>b (k.own g a ho),k.shape _ _ s,fun j x hx=>?_⟩
  obtain ⟨v,hv,hd⟩:=c j x hx
  exact ⟨v,by rw [z1x (w:=w) (a:=⟨g,j,none⟩) (k.frame g a b)]; exact hv,hd⟩
 shp:=fun g b hg=>by
  obtain ⟨a,b,v,hv,hs⟩:=h.shp g b hg
  exact ⟨eAn a k.size,fun ho=>b (k.own g a ho),v,by rw [z1x (w:=w) (a:=⟨g,0,none⟩) (k.frame g a b)]; exact hv,hs⟩
theorem GL.none {O:Nat→Prop} {w:World} (h:x6u P=[]) (h2:∀ g,z9l P g=Option.none):GL P O w where
 lay:=fun g cells hg=>by
  unfold z94 at hg
  rw [h] at hg
  cases hg
 shp:=fun g b hg=>by rw [h2 g] at hg; cases hg
theorem GL.sub {O O':Nat→Prop} {w:World} (hs:∀ b,O' b→O b) (h:GL P O w):GL P O' w where
 lay:=fun g cells hg=>by
  obtain ⟨a,b,c⟩:=h.lay g cells hg
  exact ⟨a,fun ho=>b (hs g ho),c⟩
 shp:=fun g b hg=>by
  obtain ⟨a,b,c⟩:=h.shp g b hg
  exact ⟨a,fun ho=>b (hs g ho),c⟩
structure z0a (P:Program) (ρ:Rho) (h:List AO) (w:World):Prop where
 obj:∀ id L,ρ id=some L→L.blk<w.heap.size∧z0u P ρ (z0c ρ h) w L (z0e h id)
 inj:∀ id id' L L',ρ id=some L→ρ id'=some L'→(z0e h id).live=true→(z0e h id').live=true→L.blk=L'.blk→id=id'
 fr:∀ b,ρ.fr b→b<w.heap.size
 sep:∀ id L,ρ id=some L→(z0e h id).live=true→¬ ρ.fr L.blk
 gl:GL P (z0c ρ h) w
theorem z0u.keep {ρ ρ':Rho} {O O':Nat→Prop} {w w':World} (k:z3s O O' w w') (hρ:∀ id L,ρ id=some L→ρ' id=some L) {L:Loc} {o:AO}
  (hb:w'.heap[L.blk]?=w.heap[L.blk]?) (h:z0u P ρ O w L o):z0u P ρ' O' w' L o:=by
 cases o with
 |dead=>trivial
 |box cells=>
  obtain ⟨hbs,c,t,hc,hj⟩:=h
  refine ⟨hbs,c,t,hb▸hc,fun j x hx=>?_⟩
  obtain ⟨v,hv,hr⟩:=hj j x hx
  exact ⟨v,hv,hr.keep k hρ⟩
 |row es=>
  obtain ⟨hz,c,t,hc,hl,hj⟩:=h
  refine ⟨hz,c,t,hb▸hc,hl,fun i r j x hi hx=>?_⟩
  obtain ⟨v,hv,h1,hr⟩:=hj i r j x hi hx
  exact ⟨v,hv,h1,hr.keep k⟩
 |arow es=>
  obtain ⟨hz,c,t,hc,hl,hj⟩:=h
  refine ⟨hz,c,t,hb▸hc,hl,fun i r j x hi hx=>?_⟩
  obtain ⟨v,hv,h1,hr⟩:=hj i r j x hi hx
  exact ⟨v,hv,h1,hr.keep k hρ⟩
 |map es=>
  obtain ⟨en,clk,hc,hl,hj⟩:=h
  refine ⟨en,clk,hb▸hc,hl,fun i kk x hx=>?_⟩
  obtain ⟨e,he,h1,h2⟩:=hj i kk x hx
  exact ⟨e,he,h1.keep k,h2.keep k⟩
 |loop st pd g pos nt env=>
  obtain ⟨x,ps,asg,body,hcd,tm,ds,f,hc,hl,hj⟩:=h
  exact ⟨x,ps,asg,body,hcd,tm,ds,f,hb▸hc,hl,fun t=>(hj t).keep k hρ⟩
structure Ext (S:Nat→Prop) (ρ:Rho) (h:List AO) (w:World) (ρ':Rho) (h':List AO) (w':World):Prop where
 os:w'.os=w.os
 tape:w'.tape=w.tape
 output:w'.output=w.output
 keep:z3s (z0c ρ h) (z0c ρ' h') w w'
 rho:∀ id,S id→ρ' id=ρ id
 fr:ρ'.fr=ρ.fr
 frs:∀ b,ρ.fr b→w'.heap[b]?=w.heap[b]?
theorem Ext.refl (S:Nat→Prop) (ρ:Rho) (h:List AO) (w:World):Ext S ρ h w ρ h w:=⟨rfl,rfl,rfl,z3s.refl _ _,fun _ _=>rfl,rfl,fun _ _=>rfl⟩
theorem z3s.trans {O O' O'':Nat→Prop} {w w' w'':World} (a:z3s O O' w w') (b:z3s O' O'' w' w''):z3s O O'' w w'' where
 size:=eBf a.size b.size
 frame:=fun k hk ho=>by
  rw [b.frame k (eAn hk a.size) (fun h=>ho (a.own k hk h))]
  exact a.frame k hk ho
 own:=fun k hk h=>a.own k hk (b.own k (eAn hk a.size) h)
 shape:=fun k n h=>b.shape _ _ (a.shape _ _ h)
 drawn:=z0m.trans a.drawn b.drawn
theorem Ext.trans {S:Nat→Prop} {ρ ρ' ρ'':Rho} {h h' h'':List AO} {w w' w'':World} (a:Ext S ρ h w ρ' h' w') (b:Ext S ρ' h' w' ρ'' h'' w''):Ext S ρ h w ρ'' h'' w'':=
 ⟨b.os.trans a.os,b.tape.trans a.tape,b.output.trans a.output,a.keep.trans b.keep,fun id hs=>(b.rho id hs).trans (a.rho id hs),b.fr.trans a.fr,
  fun k hk=>(b.frs k (by rw [a.fr]; exact hk)).trans (a.frs k hk)⟩
theorem Ext.mono {S S':Nat→Prop} {ρ ρ':Rho} {h h':List AO} {w w':World} (hs:∀ id,S' id→S id) (a:Ext S ρ h w ρ' h' w'):Ext S' ρ h w ρ' h' w':=
 ⟨a.os,a.tape,a.output,a.keep,fun id h=>a.rho id (hs id h),a.fr,a.frs⟩
theorem Ext.drawn (S:Nat→Prop) (ρ:Rho) (h:List AO) (w:World) (n:Nat) (hn:z0m w.drawn n):Ext S ρ h w ρ h { w with drawn:=n }:=
 ⟨rfl,rfl,rfl,⟨eAk _,fun _ _ _=>rfl,fun _ _ h=>h,fun _ _ h=>h,hn⟩,fun _ _=>rfl,rfl,fun _ _=>rfl⟩
theorem z0a.of_keep {ρ:Rho} {h:List AO} {w w':World} (hr:z0a P ρ h w) (k:z3s (z0c ρ h) (z0c ρ h) w w') (hb:∀ b,z0c ρ h b→w'.heap[b]?=w.heap[b]?):z0a P ρ h w' where
 obj:=fun id L hL=>by
  obtain ⟨h1,h2⟩:=hr.obj id L hL
  refine ⟨eAn h1 k.size,?_⟩
  by_cases hl:(z0e h id).live=true
  ·exact h2.keep k (fun _ _ h=>h) (hb _ (.inr ⟨id,L,hL,hl,rfl⟩))
  ·cases ho:z0e h id<;>simp_all [AO.live,z0u]
 inj:=hr.inj
 fr:=fun b hf=>eAn (hr.fr b hf) k.size
 sep:=hr.sep
 gl:=hr.gl.keep k
theorem z0a.drawn {ρ:Rho} {h:List AO} {w:World} (hr:z0a P ρ h w) (n:Nat) (hn:z0m w.drawn n):z0a P ρ h { w with drawn:=n }:=
 hr.of_keep (Ext.drawn (fun _=>True) ρ h w n hn).keep (fun _ _=>rfl)
def Rho.put (ρ:Rho) (id:Nat) (L:Loc):Rho:=⟨fun j=>if j=id then some L else ρ j,ρ.fr⟩
theorem Rho.put_same (ρ:Rho) (id:Nat) (L:Loc):ρ.put id L id=some L:=by simp [Rho.put]
theorem Rho.put_ne (ρ:Rho) (id j:Nat) (L:Loc) (h:j≠id):ρ.put id L j=ρ j:=by simp [Rho.put,h]
theorem Rho.put_mono (ρ:Rho) (id:Nat) (L:Loc) (h:ρ id=none):∀ j M,ρ j=some M→ρ.put id L j=some M:=by
 intro j M hj
 rw [Rho.put_ne]
 ·exact hj
 ·rintro rfl; rw [h] at hj; cases hj
def World.push (w:World) (o:Obj):World:={ w with heap:=w.heap.push o }
theorem z48 (w:World) (o:Obj) (b:Nat) (hb:b<w.heap.size):(World.push w o).heap[b]?=w.heap[b]?:=by
 show (w.heap.push o)[b]?=_
 rw [Array.getElem?_push,if_neg (by omega)]
theorem z2v (w:World) (o:Obj):(World.push w o).heap[w.heap.size]?=some o:=by
 show (w.heap.push o)[w.heap.size]?=_
 simp
theorem z6s (w:World) (o:Obj):(World.push w o).heap.size=w.heap.size+1:=by
 show (w.heap.push o).size=_
 simp
theorem z6c {w:World} {b n:Nat} (h:z0t w b=some n):b<w.heap.size:=by
 unfold z0t at h
 cases hb:w.heap[b]? with
 |none=>simp [hb] at h
 |some o=>exact (eAe.1 hb).1
theorem y91 {ρ:Rho} {h:List AO} {w:World} (hr:z0a P ρ h w) {new:Nat} (hn:ρ new=none) (L:Loc) (o:AO) (b:Nat):
  z0c (ρ.put new L) (z0x h new o) b→z0c ρ h b∨b=L.blk:=by
 rintro (hf|⟨id,M,hM,hl,rfl⟩)
 ·exact .inl (.inl hf)
 ·by_cases he:id=new
  ·subst he; rw [Rho.put_same] at hM; cases hM; exact .inr rfl
  ·rw [Rho.put_ne _ _ _ _ he] at hM; rw [z0b _ _ _ _ (Ne.symm he)] at hl; exact .inl (.inr ⟨id,M,hM,hl,rfl⟩)
theorem z50 {ρ:Rho} {h:List AO} {w:World} (hr:z0a P ρ h w) {b:Nat} (hb:z0c ρ h b):b<w.heap.size:=by
 rcases hb with hf|⟨id,L,hL,_,rfl⟩
 ·exact hr.fr b hf
 ·exact (hr.obj id L hL).1
theorem z5n {ρ:Rho} {h:List AO} {w:World} (hr:z0a P ρ h w) {new:Nat} (hn:ρ new=none) (L:Loc) (o:AO) (x:Obj) (hL:L.blk=w.heap.size):
  z3s (z0c ρ h) (z0c (ρ.put new L) (z0x h new o)) w (World.push w x) where
 size:=by rw [z6s]; omega
 frame:=fun b hb _=>z48 _ _ _ hb
 own:=fun b hb ho=>by
  rcases y91 hr hn L o b ho with h|h
  ·exact h
  ·omega
 shape:=fun b n hb=>by
  have:=z6c hb
  unfold z0t; rw [z48 _ _ _ this]; exact hb
 drawn:=z0m.refl _
theorem z0a.new {ρ:Rho} {h:List AO} {w:World} (hr:z0a P ρ h w) {new:Nat} (hn:ρ new=none) (esz:Nat) (o:AO) (x:Obj)
  (ho:z0u P (ρ.put new ⟨w.heap.size,0,esz⟩) (z0c (ρ.put new ⟨w.heap.size,0,esz⟩) (z0x h new o)) (World.push w x) ⟨w.heap.size,0,esz⟩ o):
  z0a P (ρ.put new ⟨w.heap.size,0,esz⟩) (z0x h new o) (World.push w x) where
 obj:=fun id L hL=>by
  by_cases he:id=new
  ·subst he
   rw [Rho.put_same] at hL; cases hL
   rw [z0g]
   exact ⟨by rw [z6s]; simp,ho⟩
  ·rw [Rho.put_ne _ _ _ _ he] at hL
   obtain ⟨h1,h2⟩:=hr.obj id L hL
   rw [z0b _ _ _ _ (Ne.symm he)]
   exact ⟨by rw [z6s]; omega,h2.keep (z5n hr hn _ o x rfl) (Rho.put_mono _ _ _ hn) (z48 _ _ _ h1)⟩
 inj:=fun id id' L L' h1 h2 l1 l2 hb=>by
  by_cases e1:id=new
  ·subst e1
   by_cases e2:id'=id
   ·exact e2.symm
   ·rw [Rho.put_same] at h1; cases h1
    rw [Rho.put_ne _ _ _ _ e2] at h2
    have:=(hr.obj id' L' h2).1
    simp at hb; omega
  ·by_cases e2:id'=new
   ·subst e2
    rw [Rho.put_same] at h2; cases h2
    rw [Rho.put_ne _ _ _ _ e1] at h1
    have:=(hr.obj id L h1).1
    simp at hb; omega
   ·rw [Rho.put_ne _ _ _ _ e1] at h1
    rw [Rho.put_ne _ _ _ _ e2] at h2
    rw [z0b _ _ _ _ (Ne.symm e1)] at l1
    rw [z0b _ _ _ _ (Ne.symm e2)] at l2
    exact hr.inj id id' L L' h1 h2 l1 l2 hb
 fr:=fun b hf=>by rw [z6s]; have:=hr.fr b hf; omega
 sep:=fun id L hL hl hf=>by
  by_cases he:id=new
  ·subst he; rw [Rho.put_same] at hL; cases hL
   have:=hr.fr _ hf; simp at this
  ·rw [Rho.put_ne _ _ _ _ he] at hL; rw [z0b _ _ _ _ (Ne.symm he)] at hl
   exact hr.sep id L hL hl hf
 gl:=hr.gl.keep (z5n hr hn _ o x rfl)
theorem Ext.new {ρ:Rho} {h:List AO} {w:World} (hr:z0a P ρ h w) {new:Nat} (hn:ρ new=none) (L:Loc) (o:AO) (x:Obj) (hL:L.blk=w.heap.size):
  Ext (fun id=>id≠new) ρ h w (ρ.put new L) (z0x h new o) (World.push w x):=
 ⟨rfl,rfl,rfl,z5n hr hn L o x hL,fun id hid=>Rho.put_ne _ _ _ _ hid,rfl,fun b hf=>z48 _ _ _ (hr.fr b hf)⟩
theorem y6f (O:Nat→Prop) (w:World) (x:Obj) (hO:∀ b,O b→b<w.heap.size):z3s O O w (World.push w x) where
 size:=by rw [z6s]; omega
 frame:=fun b hb _=>z48 _ _ _ hb
 own:=fun b hb ho=>ho
 shape:=fun b n hb=>by
  have:=z6c hb
  unfold z0t; rw [z48 _ _ _ this]; exact hb
 drawn:=z0m.refl _
theorem z0a.push0 {ρ:Rho} {h:List AO} {w:World} (hr:z0a P ρ h w) (x:Obj):z0a P ρ h (World.push w x):=
 hr.of_keep (y6f _ _ _ fun _=>z50 hr) fun b hb=>z48 _ _ _ (z50 hr hb)
theorem Ext.push0 (S:Nat→Prop) {ρ:Rho} {h:List AO} {w:World} (hr:z0a P ρ h w) (x:Obj):Ext S ρ h w ρ h (World.push w x):=
 ⟨rfl,rfl,rfl,y6f _ _ _ fun _=>z50 hr,fun _ _=>rfl,rfl,fun b hf=>z48 _ _ _ (hr.fr b hf)⟩
def World.setObj (w:World) (b:Nat) (o:Obj):World:={ w with heap:=w.heap.setIfInBounds b o }
theorem z1f (w:World) (b k:Nat) (o:Obj) (h:k≠b):(World.setObj w b o).heap[k]?=w.heap[k]?:=by
 show (w.heap.setIfInBounds b o)[k]?=_
 rw [eBs]; simp [Ne.symm h]
theorem z0l (w:World) (b:Nat) (o:Obj) (h:b<w.heap.size):(World.setObj w b o).heap[b]?=some o:=by
 show (w.heap.setIfInBounds b o)[b]?=_
 rw [eBs]; simp [h]
theorem z1c (w:World) (b:Nat) (o:Obj):(World.setObj w b o).heap.size=w.heap.size:=by
 show (w.heap.setIfInBounds b o).size=_
 simp
theorem y77 {ρ:Rho} {h:List AO} {id:Nat} (o:AO) (hl:(z0e h id).live=true) (ho:o.live=true) (b:Nat):z0c ρ (z0x h id o) b↔z0c ρ h b:=by
 constructor
 ·rintro (hf|⟨j,M,hM,hj,rfl⟩)
  ·exact .inl hf
  by_cases he:j=id
  ·subst he; exact .inr ⟨j,M,hM,hl,rfl⟩
  ·rw [z0b _ _ _ _ (Ne.symm he)] at hj; exact .inr ⟨j,M,hM,hj,rfl⟩
 ·rintro (hf|⟨j,M,hM,hj,rfl⟩)
  ·exact .inl hf
  by_cases he:j=id
  ·subst he; exact .inr ⟨j,M,hM,by rw [z0g]; exact ho,rfl⟩
  ·exact .inr ⟨j,M,hM,by rw [z0b _ _ _ _ (Ne.symm he)]; exact hj,rfl⟩
theorem z1d {ρ:Rho} {h:List AO} {w:World} (hr:z0a P ρ h w) {id:Nat} {L:Loc} (hL:ρ id=some L) (hl:(z0e h id).live=true) (o:AO) (ho:o.live=true) (x:Obj)
  (hs:∀ n,z0t w L.blk=some n→z0t (World.setObj w L.blk x) L.blk=some n):
  z3s (z0c ρ h) (z0c ρ (z0x h id o)) w (World.setObj w L.blk x) where
 size:=by rw [z1c]; omega
 frame:=fun b hb hn=>z1f _ _ _ _ (fun e=>hn (e▸ .inr ⟨id,L,hL,hl,rfl⟩))
 own:=fun b _ hb=>(y77 o hl ho b).1 hb
 shape:=fun b n hb=>by
  by_cases he:b=L.blk
  ·subst he; exact hs n hb
  ·unfold z0t; rw [z1f _ _ _ _ he]; exact hb
 drawn:=z0m.refl _
theorem z0a.set {ρ:Rho} {h:List AO} {w:World} (hr:z0a P ρ h w) {id:Nat} {L:Loc} (hL:ρ id=some L) (hl:(z0e h id).live=true) (o:AO) (ho:o.live=true) (x:Obj)
  (hs:∀ n,z0t w L.blk=some n→z0t (World.setObj w L.blk x) L.blk=some n)
  (hx:z0u P ρ (z0c ρ (z0x h id o)) (World.setObj w L.blk x) L o):z0a P ρ (z0x h id o) (World.setObj w L.blk x) where
 obj:=fun j M hM=>by
  obtain ⟨h1,h2⟩:=hr.obj j M hM
  refine ⟨by rw [z1c]; exact h1,?_⟩
  by_cases he:j=id
  ·subst he; rw [hL] at hM; cases hM; rw [z0g]; exact hx
  ·rw [z0b _ _ _ _ (Ne.symm he)]
   by_cases hlj:(z0e h j).live=true
   ·exact h2.keep (z1d hr hL hl o ho x hs) (fun _ _ h=>h) (z1f _ _ _ _ (fun e=>he (hr.inj j id M L hM hL hlj hl e)))
   ·cases hjo:z0e h j<;>simp_all [AO.live,z0u]
 inj:=fun i j M N h1 h2 l1 l2 hb=>by
  refine hr.inj i j M N h1 h2 ?_ ?_ hb
  ·by_cases he:i=id
   ·subst he; exact hl
   ·rwa [z0b _ _ _ _ (Ne.symm he)] at l1
  ·by_cases he:j=id
   ·subst he; exact hl
   ·rwa [z0b _ _ _ _ (Ne.symm he)] at l2
 fr:=fun b hf=>by rw [z1c]; exact hr.fr b hf
 sep:=fun j M hM hj hf=>by
  refine hr.sep j M hM ?_ hf
  by_cases he:j=id
  ·subst he; exact hl
  ·rwa [z0b _ _ _ _ (Ne.symm he)] at hj
 gl:=hr.gl.keep (z1d hr hL hl o ho x hs)
theorem Ext.set (S:Nat→Prop) {ρ:Rho} {h:List AO} {w:World} (hr:z0a P ρ h w) {id:Nat} {L:Loc} (hL:ρ id=some L) (hl:(z0e h id).live=true) (o:AO) (ho:o.live=true) (x:Obj)
  (hs:∀ n,z0t w L.blk=some n→z0t (World.setObj w L.blk x) L.blk=some n):Ext S ρ h w ρ (z0x h id o) (World.setObj w L.blk x):=
 ⟨rfl,rfl,rfl,z1d hr hL hl o ho x hs,fun _ _=>rfl,rfl,fun b hf=>z1f _ _ _ _ (fun e=>hr.sep id L hL hl (e▸hf))⟩
theorem y3z {ρ:Rho} {h:List AO} {id:Nat} (b:Nat) (hb:z0c ρ (z0x h id .dead) b):z0c ρ h b:=by
 rcases hb with hf|⟨j,M,hM,hj,rfl⟩
 ·exact .inl hf
 by_cases he:j=id
 ·subst he; rw [z0g] at hj; cases hj
 ·rw [z0b _ _ _ _ (Ne.symm he)] at hj; exact .inr ⟨j,M,hM,hj,rfl⟩
theorem z0a.kill {ρ:Rho} {h:List AO} {w:World} (hr:z0a P ρ h w) (id:Nat):z0a P ρ (z0x h id .dead) w where
 obj:=fun j M hM=>by
  obtain ⟨h1,h2⟩:=hr.obj j M hM
  refine ⟨h1,?_⟩
  by_cases he:j=id
  ·subst he; rw [z0g]; trivial
  ·rw [z0b _ _ _ _ (Ne.symm he)]
   exact h2.keep ⟨eAk _,fun _ _ _=>rfl,fun b _ hb=>y3z b hb,fun _ _ h=>h,z0m.refl _⟩ (fun _ _ h=>h) rfl
 inj:=fun i j M N h1 h2 l1 l2 hb=>by
  refine hr.inj i j M N h1 h2 ?_ ?_ hb
  ·by_cases he:i=id
   ·subst he; rw [z0g] at l1; cases l1
   ·rwa [z0b _ _ _ _ (Ne.symm he)] at l1
  ·by_cases he:j=id
   ·subst he; rw [z0g] at l2; cases l2
   ·rwa [z0b _ _ _ _ (Ne.symm he)] at l2
 fr:=hr.fr
 sep:=fun j M hM hj hf=>by
  refine hr.sep j M hM ?_ hf
  by_cases he:j=id
  ·subst he; rw [z0g] at hj; cases hj
  ·rwa [z0b _ _ _ _ (Ne.symm he)] at hj
 gl:=hr.gl.sub fun b hb=>y3z b hb
theorem Ext.kill (S:Nat→Prop) (ρ:Rho) (h:List AO) (w:World) (id:Nat):Ext S ρ h w ρ (z0x h id .dead) w:=
 ⟨rfl,rfl,rfl,⟨eAk _,fun _ _ _=>rfl,fun b _ hb=>y3z b hb,fun _ _ h=>h,z0m.refl _⟩,fun _ _=>rfl,rfl,fun _ _=>rfl⟩
end Go.Am
end
section
namespace Go.Am
theorem z2g {α:Type} {l:List α} {i n:Nat} {r:List α} (h:part l i n=some r):r.length=n∧∀ j,j<n→l[i+j]?=r[j]?:=by
 induction l generalizing i n r with
 |nil=>cases i<;>cases n<;>simp [part] at h; subst h; simp
 |cons x l ih=>
  cases i with
  |zero=>cases n with
   |zero=>simp [part] at h; subst h; simp
   |succ n=>
    simp only [part] at h
    cases hp:part l 0 n with
    |none=>simp [hp] at h
    |some q=>
     simp [hp] at h; subst h
     obtain ⟨h1,h2⟩:=ih hp
     refine ⟨by simp [h1],fun j hj=>?_⟩
     cases j with
     |zero=>simp
     |succ j=>have:=h2 j (by omega); simp only [eAp] at this⊢; simpa using this
  |succ i=>
   simp only [part] at h
   obtain ⟨h1,h2⟩:=ih h
   refine ⟨h1,fun j hj=>?_⟩
   rw [show i+1+j=(i+j)+1 by omega]
   simpa using h2 j hj
theorem z8h {α:Type} {l xs r:List α} {i:Nat} (h:x19 l i xs=some r):
  r.length=l.length∧i+xs.length≤l.length∧∀ j,r[j]?=if i≤j∧j<i+xs.length then xs[j - i]? else l[j]?:=by
 induction l generalizing i xs r with
 |nil=>cases i<;>cases xs<;>simp [x19] at h; subst h; simp
 |cons y l ih=>
  cases i with
  |zero=>cases xs with
   |nil=>simp [x19] at h; subst h; simp
   |cons x xs=>
    simp only [x19] at h
    cases hp:x19 l 0 xs with
    |none=>simp [hp] at h
    |some q=>
     simp [hp] at h; subst h
     obtain ⟨h1,h2,h3⟩:=ih hp
     refine ⟨by simp [h1],by simp at h2⊢; omega,fun j=>?_⟩
     cases j with
     |zero=>simp
     |succ j=>
      have:=h3 j
      simp only [eCe,this,eBi]
      by_cases hj:j<xs.length
      ·rw [if_pos ⟨by omega,by omega⟩,if_pos ⟨by omega,by omega⟩]; simp
      ·rw [if_neg (by omega),if_neg (by omega)]
  |succ i=>
   simp only [x19] at h
   cases hp:x19 l i xs with
   |none=>simp [hp] at h
   |some q=>
    simp [hp] at h; subst h
    obtain ⟨h1,h2,h3⟩:=ih hp
    refine ⟨by simp [h1],by simp at h2⊢; omega,fun j=>?_⟩
    cases j with
    |zero=>rw [if_neg (by omega)]; simp
    |succ j=>
     have:=h3 j
     simp only [eCe,this]
     by_cases hj:i≤j∧j<i+xs.length
     ·rw [if_pos hj,if_pos (by omega)]; congr 1; omega
     ·rw [if_neg hj,if_neg (by omega)]
theorem z6z {α:Type} {l:List α} {n:Nat} (h:z60 l n=true):l.length=n:=by
 induction l generalizing n with
 |nil=>cases n<;>simp [z60] at h⊢
 |cons x l ih=>cases n with
  |zero=>simp [z60] at h
  |succ n=>simpa using ih (by simpa [z60] using h)
theorem z1b {α:Type} (l:List α) (i:Nat):z1j l i=l[i]?:=by
 induction l generalizing i with
 |nil=>simp [z1j]
 |cons x l ih=>cases i<;>simp [z1j,ih]
theorem z03 (l:List D) (j:Nat):(toA l)[j]?=(l[j]?).map AV.d:=by
 induction l generalizing j with
 |nil=>simp [toA]
 |cons x l ih=>cases j<;>simp [toA,ih]
theorem z0o (l:List D):(toA l).length=l.length:=by
 induction l with
 |nil=>rfl
 |cons x l ih=>simp [toA,ih]
theorem z1i {l:List AV} {ds:List D} (h:y8x l=some ds):l=toA ds:=by
 induction l generalizing ds with
 |nil=>simp [y8x] at h; subst h; rfl
 |cons x l ih=>
  cases x<;>simp only [y8x] at h<;>try (cases h; done)
  cases hq:y8x l with
  |none=>simp [hq] at h
  |some q=>simp [hq] at h; subst h; simp [toA,ih hq]
theorem z13 (env:List (Nat×AV)) (l:List Operand):z0s env l=l.map (z0j env):=by
 induction l with
 |nil=>rfl
 |cons x l ih=>simp [z0s,ih]
theorem x4l {v:Value} {d:D} (h:w74 v=some d) (O:Nat→Prop) (w:World):z02 O w d v:=by
 unfold w74 at h
 split at h<;>cases h
 ·exact .bool _
 ·exact .int _ _
 ·exact .str _
 ·exact .lnil _ _ _ _ (fun _=>rfl)
 ·exact .nilp
 ·exact .nilm
 ·exact .nilf
 ·exact .nili
theorem z68 {l:List Value} {ds:List D} (h:y04 l=some ds):ds.length=l.length∧∀ (O:Nat→Prop) (w:World) (j:Nat) (d:D),ds[j]?=some d→∃ v,l[j]?=some v∧z02 O w d v:=by
 induction l generalizing ds with
 |nil=>simp [y04] at h; subst h; simp
 |cons v l ih=>
  simp only [y04] at h
  cases h1:w74 v with
  |none=>simp [h1] at h
  |some d=>
   cases h2:y04 l with
   |none=>simp [h1,h2] at h
   |some q=>
    simp [h1,h2] at h; subst h
    obtain ⟨e1,e2⟩:=ih h2
    refine ⟨by simp [e1],fun O w j x hx=>?_⟩
    cases j with
    |zero=>simp at hx; subst hx; exact ⟨v,by simp,x4l h1 O w⟩
    |succ j=>simpa using e2 O w j x (by simpa using hx)
theorem x4m {v:Value} {d:D} (h:w9g v=some d) (O:Nat→Prop) (w:World):z02 O w d v:=by
 unfold w9g at h
 split at h
 ·rename_i cs
  cases hq:y04 cs.toList with
  |none=>simp [hq] at h
  |some q=>
   simp [hq] at h; subst h
   obtain ⟨h1,h2⟩:=z68 hq
   refine .agg _ _ (by simp [h1]) fun i d hd=>?_
   obtain ⟨v,hv,hr⟩:=h2 O w i d hd
   have:cs.getD i undef=v:=by
    have:cs[i]?=some v:=by simpa using hv
    simp [eAh,this]
   rw [this]; exact hr
 ·exact x4l h O w
def v2p (P:Program) (d:TypeDesc):TK→Prop
 | .int k=>d= .int k
 | .bool=>d= .bool
 | .str=>d= .string
 | .struct l=>∃ fs,d= .struct fs∧l.length=fs.size∧∀ (i:Nat) (x:Nat×Nat×Bool),l[i]?=some x→∃ f:Field,fs[i]?=some f∧f.offset=x.1∧z78 P f.type=some x.2.1∧z2y P f.type=some x.2.2
 | .arr m s a=>∃ e,d= .array m e∧z78 P e=some s∧z2y P e=some a
 | .slc e s b a z=>d= .slice e∧z78 P e=some s∧y0c P e=some b∧z2y P e=some a∧y21 P e=some z∧z.length=s
 | .ptr (some (n,s))=>∃ e e',d= .pointer e∧P.underlying e=some (.array n e')∧z78 P e'=some s
 | .ptr none=>∃ e,d= .pointer e
 | .map ks a z=>∃ k e,d= .map k e∧z3j P 8 k=some ks∧z2y P k=some a∧x6q P e=some z∧P.eqGuardType P.depth k=false
 | .func=>∃ a b c,d= .func a b c
 | .iface=>∃ ms,d= .interface ms
 |_=>True
structure z5t (P:Program) (t:TypeId) (ti:TI):Prop where
 size:z78 P t=some ti.size
 bytes:y0c P t=some ti.bytes
 agg:z2y P t=some ti.agg
 zero:∃ i z,P.info? t=some i∧i.zero=some z∧y04 z.cells.toList=some ti.zero∧ti.zero.length=ti.size∧(ti.agg=true→∃ cs,z= .agg cs)∧(ti.agg=false→∀ cs,z≠ .agg cs)
 desc:∃ d,P.underlying t=some d∧z6i d=ti.agg∧v2p P d ti.desc
 eqk:∀ ks,ti.eqk=some ks→z3j P 8 t=some ks∧P.eqGuardType P.depth t=false
theorem y8k {P:Program} {fs:List Field} {l:List (Nat×Nat×Bool)} (h:fieldsOf P fs=some l):
  l.length=fs.length∧∀ (i:Nat) (x:Nat×Nat×Bool),l[i]?=some x→∃ f:Field,fs[i]?=some f∧f.offset=x.1∧z78 P f.type=some x.2.1∧z2y P f.type=some x.2.2:=by
 induction fs generalizing l with
 |nil=>simp [fieldsOf] at h; subst h; simp
 |cons f fs ih=>
  simp only [fieldsOf] at h
  split at h
  ·rename_i s a q h1 h2 h3
   cases h
   obtain ⟨e1,e2⟩:=ih h3
   refine ⟨by simp [e1],fun i x hx=>?_⟩
   cases i with
   |zero=>simp at hx; subst hx; exact ⟨f,by simp,rfl,h1,h2⟩
   |succ i=>simpa using e2 i x (by simpa using hx)
  ·cases h
theorem w4k {P:Program} {d:TypeDesc} {k:TK} (h:v0d P d=some k):v2p P d k:=by
 unfold v0d at h
 split at h
 ·cases h; exact rfl
 ·cases h; exact rfl
 ·cases h; exact rfl
 ·rename_i fs
  cases hq:fieldsOf P fs.toList with
  |none=>simp [hq] at h
  |some q=>simp [hq] at h; subst h; exact ⟨fs,rfl,by simpa using y8k hq⟩
 ·split at h
  ·cases h; exact ⟨_,rfl, ‹_›, ‹_›⟩
  ·cases h
 ·split at h
  ·rename_i hc1 hc2 hc3 hc4
   split at h
   ·cases h; exact ⟨rfl,hc1,hc3,hc2,hc4, ‹_›⟩
   ·cases h
  ·cases h
 ·rename_i e
  split at h
  ·rename_i n e' he
   cases hq:z78 P e' with
   |none=>simp [hq] at h
   |some s=>simp [hq] at h; subst h; exact ⟨e,e',rfl,he,hq⟩
  ·cases h; exact ⟨e,rfl⟩
 ·split at h
  ·cases h; exact ⟨_,_,rfl, ‹_›, ‹_›, ‹_›, ‹_›⟩
  ·cases h; trivial
 ·cases h; exact ⟨_,_,_,rfl⟩
 ·cases h; exact ⟨_,rfl⟩
 ·cases h; trivial
theorem x71 {P:Program} {t:TypeId} {ti:TI} (h:w69 P t=some ti):z5t P t ti:=by
 unfold w69 at h
 split at h
 ·rename_i i d hi hd
  split at h
  ·rename_i z hz
   split at h
   ·rename_i zs k hzs hk
    split at h
    ·rename_i hc
     cases h
     simp only [eAb,beq_iff_eq] at hc
     refine ⟨by simp [z78,hi],by simp [y0c,hi],by simp [z2y,hd],⟨i,z,hi,hz,hzs,hc.2,?_,?_⟩,⟨d,hd,rfl,w4k hk⟩,?_⟩
     ·intro ha; have h1:x8c z=true:=by rw [←hc.1]; exact ha
      cases z<;>first|exact ⟨_,rfl⟩|cases h1
     ·intro ha cs hcs; have h1:x8c z=false:=by rw [←hc.1]; exact ha
      rw [hcs] at h1; cases h1
     ·intro ks hks
      simp only at hks
      split at hks
      ·cases hks
      ·rename_i hg; exact ⟨hks,by simpa using hg⟩
    ·cases h
   ·cases h
  ·cases h
 ·cases h
def y0f (P:Program) (T:TypeId→Option TI):Prop:=∀ t ti,T t=some ti→z5t P t ti
section
variable {P:Program}
theorem z0v {t:TypeId} {n:Nat} (h:z78 P t=some n) (w:World):(sizeOf t).run P w= .ok n w:=by
 unfold z78 at h
 cases hi:P.info? t with
 |none=>simp [hi] at h
 |some i=>simp [hi] at h; simp [sizeOf,typeInfo,hi,h]
theorem y73 {t:TypeId} {b:Bool} (h:z2y P t=some b) (w:World):(isAgg t).run P w= .ok b w:=by
 unfold z2y at h
 cases hd:P.underlying t with
 |none=>simp [hd] at h
 |some d=>simp [hd] at h; cases d<;>simp [isAgg,underlying,hd,z6i] at h⊢ <;>exact h
theorem z0d {t:TypeId} {d:TypeDesc} (h:P.underlying t=some d) (w:World):(underlying t).run P w= .ok d w:=by
 simp [underlying,h]
theorem z39 (b o n:Nat):(⟨b,o,none⟩:Addr).add n=⟨b,o+n,none⟩:=by unfold Addr.add; split<;>simp_all
theorem z2o {t:TypeId} {n:Nat} {agg:Bool} (hs:z78 P t=some n) (ha:z2y P t=some agg) (w:World) (b o:Nat) (cs:List Value) (hl:cs.length=n)
  (hc:∀ j v,cs[j]?=some v→w.cell? ⟨b,o+j,none⟩=some v) (v:Value) (hv:if agg then v= .agg cs.toArray else cs=[v]):
  (loadVar t ⟨b,o,none⟩).run P w= .ok v w:=by
 have hcs:(loadCells ⟨b,o,none⟩ n).run P w= .ok cs.toArray w:=by
  have:=run_loadCells_list (P:=P) w ⟨b,o,none⟩ cs (fun j v hv=>by rw [z39]; exact hc j v hv)
  rwa [hl] at this
 cases agg with
 |true=>
  simp at hv; subst hv
  simp [loadVar,y73 ha,z0v hs,hcs]
 |false=>
  simp at hv; subst hv
  have:=hc 0 v (by simp)
  simp at this
  simp [loadVar,y73 ha,this]
end
def z06 (h:List AO):List (Nat×AO)→List AO
 |[]=>h
 |(i,o)::r=>z06 (z0x h i o) r
def z0h (P:Program) (ρ:Rho) (h:List AO) (w:World) (new:Nat) (s:Sem Value) (r:Res):Prop:=
 ∃ v w' ρ',s.run P w= .ok v w'∧z0i ρ' (z0c ρ' (z06 h r.u)) w' r.v v∧z0a P ρ' (z06 h r.u) w'∧
  Ext (fun id=>id≠new) ρ h w ρ' (z06 h r.u) w'∧(ρ'=ρ∨∃ o,(new,o)∈r.u)
theorem z0h.pure {P:Program} {ρ:Rho} {h:List AO} {w:World} {new:Nat} {s:Sem Value} {x:AV} {v:Value} {c:Bool} (hr:z0a P ρ h w)
  (hs:s.run P w= .ok v w) (hv:z0i ρ (z0c ρ h) w x v):z0h P ρ h w new s ⟨c,x,[]⟩:=
 ⟨v,w,ρ,hs,hv,hr,Ext.refl _ _ _ _, .inl rfl⟩
theorem z7n {α:Type} {c:Array α} {i:Nat} {v d:α} (h:c[i]?=some v):c.getD i d=v:=by simp [eAh,h]
theorem z4z {w:World} {b o:Nat} {c:Array Value} {t:TypeId} {f:Nat×Nat} {v:Value} (h:w.heap[b]?=some (.cells c t f)) (hv:c[o]?=some v):w.cell? ⟨b,o,none⟩=some v:=by
 simp [World.cell?,h,hv]
theorem z4i {ρ:Rho} {O:Nat→Prop} {w:World} {agg:Bool} {l:List AV} {x:AV} (h:z5m agg l=some x) (cs:List Value) (hl:cs.length=l.length)
  (hc:∀ (j:Nat) (y:AV) (v:Value),l[j]?=some y→cs[j]?=some v→z0i ρ O w y v):∃ v,(if agg then v= .agg cs.toArray else cs=[v])∧z0i ρ O w x v:=by
 have key:∀ (i:Nat) (y:AV),l[i]?=some y→z0i ρ O w y (cs.toArray.getD i undef):=by
  intro i y hy
  have hi:i<cs.length:=by rw [hl]; exact (eAd.1 hy).1
  have hcs:cs[i]?=some cs[i]:=eAa hi
  have:=hc i y _ hy hcs
  rw [show cs.toArray.getD i undef=cs[i] by simp [eAh,hcs]]
  exact this
 cases agg with
 |true=>
  refine ⟨.agg cs.toArray,by simp,?_⟩
  simp only [z5m] at h
  cases hq:y8x l with
  |none=>simp [hq] at h; subst h; exact .agg _ _ (by simp [hl]) key
  |some ds=>
   simp [hq] at h; subst h
   have e:=z1i hq
   refine .d (.agg _ _ (by simp [hl,e,z0o]) fun i d hd=>?_)
   have:=key i (.d d) (by rw [e,z03,hd]; rfl)
   cases this; assumption
 |false=>
  simp only [z5m] at h
  split at h
  ·cases h
   cases cs with
   |nil=>simp at hl
   |cons v r=>
    cases r with
    |nil=>exact ⟨v,by simp,hc 0 _ v (by simp) (by simp)⟩
    |cons _ _=>simp at hl
  ·cases h
theorem z2p {ρ:Rho} {O:Nat→Prop} {w:World} {agg:Bool} {l:List D} {x:AV} (h:z4m agg l=some x) (cs:List Value) (hl:cs.length=l.length)
  (hc:∀ (j:Nat) (y:D) (v:Value),l[j]?=some y→cs[j]?=some v→z02 O w y v):∃ v,(if agg then v= .agg cs.toArray else cs=[v])∧z0i ρ O w x v:=by
 have key:∀ (i:Nat) (y:D),l[i]?=some y→z02 O w y (cs.toArray.getD i undef):=by
  intro i y hy
  have hi:i<cs.length:=by rw [hl]; exact (eAd.1 hy).1
  have hcs:cs[i]?=some cs[i]:=eAa hi
  have:=hc i y _ hy hcs
  rw [show cs.toArray.getD i undef=cs[i] by simp [eAh,hcs]]
  exact this
 cases agg with
 |true=>
  refine ⟨.agg cs.toArray,by simp,?_⟩
  simp only [z4m] at h; cases h
  exact .d (.agg _ _ (by simp [hl]) key)
 |false=>
  simp only [z4m] at h
  split at h
  ·cases h
   cases cs with
   |nil=>simp at hl
   |cons v r=>
    cases r with
    |nil=>exact ⟨v,by simp, .d (hc 0 _ v (by simp) (by simp))⟩
    |cons _ _=>simp at hl
  ·cases h
theorem z4l {α:Type} {R:α→Value→Prop} (f:Nat→Option Value) (l:List α) (h:∀ (j:Nat) (x:α),l[j]?=some x→∃ v,f j=some v∧R x v):
  ∃ cs:List Value,cs.length=l.length∧(∀ (j:Nat) (v:Value),cs[j]?=some v→f j=some v)∧∀ (j:Nat) (x:α) (v:Value),l[j]?=some x→cs[j]?=some v→R x v:=by
 induction l generalizing f with
 |nil=>exact ⟨[],rfl,by simp,by simp⟩
 |cons a l ih=>
  obtain ⟨v,hv,hr⟩:=h 0 a (by simp)
  obtain ⟨cs,h1,h2,h3⟩:=ih (fun j=>f (j+1)) (fun j x hx=>h (j+1) x (by simpa using hx))
  refine ⟨v::cs,by simp [h1],fun j u hu=>?_,fun j x u hx hu=>?_⟩
  ·cases j with
   |zero=>simp at hu; subst hu; exact hv
   |succ j=>exact h2 j u (by simpa using hu)
  ·cases j with
   |zero=>simp at hx hu; subst hx; subst hu; exact hr
   |succ j=>exact h3 j x u (by simpa using hx) (by simpa using hu)
def x1g (h:List AO) (a:AV) (r:List D) (ra:List AV):Prop:=
 match a with
 | .bptr id off=>∀ es,z0e h id= .row es→y1y es off r
 | .wptr es off=>y1y es off r
 | .ptr id i _=>(∀ es,z0e h id= .row es→x9x es i r)∧(∀ es,z0e h id= .arow es→es[i]?=some ra)
 |_=>True
theorem z2c {x:Option AV} {r:Res} (h:x.bind ok=some r):∃ v,x=some v∧r=⟨true,v,[]⟩:=by
 cases x with
 |none=>cases h
 |some v=>simp [ok] at h; exact ⟨v,rfl,h.symm⟩
theorem z7t {P:Program} {ρ:Rho} {O:Nat→Prop} {w:World} {L:Loc} {es:List (List D)} (ho:z0u P ρ O w L (.row es)) {off:Nat} {r:List D} (hc:y1y es off r) {c:Array Value} {t:TypeId}
  (hb:w.heap[L.blk]?=some (.cells c t (0,0))) {j:Nat} {x:D} (hx:r[j]?=some x):L.esz=1∧off+j<es.length∧∃ v:Value,c[L.base+off+j]?=some v∧v.oneCell'=true∧z02 O w x v:=by
 obtain ⟨hz,c',t',hb',hl,hj⟩:=ho
 rw [hb] at hb'; cases hb'
 obtain ⟨r0,hr0,hle⟩:=hc j x hx
 have h1:L.esz=1:=by rw [←hl _ _ hr0, ←hle.1]; rfl
 obtain ⟨y,hy,hyle⟩:=hle.2 0 x rfl
 obtain ⟨v,hv,h1v,hrel⟩:=hj _ _ _ _ hr0 hy
 refine ⟨h1,(eAd.1 hr0).1,v,?_,h1v,hrel.le hyle⟩
 rw [h1,eBx,eAt, ←eAy] at hv; exact hv
theorem x1s {P:Program} {T:TypeId} {ti:TI} (ht:z5t P T ti) {ρ:Rho} {h:List AO} {w:World} (hr:z0a P ρ h w) {r:List D} {ra:List AV} {a:AV} {va:Value}
  (ha:z0i ρ (z0c ρ h) w a va) (hrow:x1g h a r ra) {res:Res} (hs:z3u ti h r ra a=some res) (new:Nat):z0h P ρ h w new (Instr.loadAt T va) res:=by
 unfold z3u at hs
 split at hs
 ·
  rename_i id off
  split at hs
  ·rename_i cells hob
   split at hs
   ·rename_i l hp
    obtain ⟨x,hx,rfl⟩:=z2c hs
    cases ha with
    |bptr _ _ L hL=>
     obtain ⟨_,ho⟩:=hr.obj id L hL
     rw [hob] at ho
     obtain ⟨hbase,c,t,hc,hj⟩:=ho
     obtain ⟨hl,hg⟩:=z2g hp
     obtain ⟨cs,h1,h2,h3⟩:=z4l (R:=z0i ρ (z0c ρ h) w) (fun j=>c[L.base+off+j]?) l (fun j x hx=>by
      have hj':j<ti.size:=by rw [←hl]; exact (eAd.1 hx).1
      obtain ⟨v,hv,hrel⟩:=hj (off+j) x (by rw [hg j hj']; exact hx)
      exact ⟨v,by rw [eAy]; exact hv,hrel⟩)
     obtain ⟨v,hv1,hv2⟩:=z4i hx cs h1 h3
     refine z0h.pure hr ?_ hv2
     show (loadVar T _).run P w=_
     exact z2o ht.size ht.agg w _ _ cs (h1.trans hl) (fun j v hv=>z4z hc (h2 j v hv)) v hv1
   ·cases hs
  ·rename_i es hob
   cases hn:z60 r ti.size with
   |false=>rw [hn] at hs; cases hs
   |true=>
   rw [hn] at hs
   have hl:=z6z hn
   obtain ⟨x,hx,rfl⟩:=z2c hs
   cases ha with
   |bptr _ _ L hL=>
    obtain ⟨_,ho⟩:=hr.obj id L hL
    rw [hob] at ho
    have ho2:=ho
    obtain ⟨hz,c,t,hc,hlen,hj⟩:=ho
    obtain ⟨cs,h1,h2,h3⟩:=z4l (R:=z02 (z0c ρ h) w) (fun j=>c[L.base+off+j]?) r (fun j x hx=>by
     obtain ⟨_,_,v,hv,_,hrel⟩:=z7t ho2 (hrow es hob) hc hx
     exact ⟨v,hv,hrel⟩)
    obtain ⟨v,hv1,hv2⟩:=z2p (ρ:=ρ) hx cs h1 h3
    refine z0h.pure hr ?_ hv2
    show (loadVar T _).run P w=_
    exact z2o ht.size ht.agg w _ _ cs (h1.trans hl) (fun j v hv=>z4z hc (h2 j v hv)) v hv1
  ·cases hs
 ·
  rename_i id i off
  split at hs
  ·rename_i es hob
   split at hs
   ·rename_i l hp
    obtain ⟨x,hx,rfl⟩:=z2c hs
    cases ha with
    |ptr _ _ _ L hL=>
     obtain ⟨_,ho⟩:=hr.obj id L hL
     rw [hob] at ho
     obtain ⟨hz,c,t,hc,hlen,hj⟩:=ho
     obtain ⟨r0,hri,hrl⟩:=hrow.1 es hob
     obtain ⟨hl,hg⟩:=z2g hp
     obtain ⟨cs,h1,h2,h3⟩:=z4l (R:=z02 (z0c ρ h) w) (fun j=>c[L.base+i*L.esz+off+j]?) l (fun j x hx=>by
      have hj':j<ti.size:=by rw [←hl]; exact (eAd.1 hx).1
      obtain ⟨x0,hx0,hle⟩:=hrl.2 (off+j) x (by rw [hg j hj']; exact hx)
      obtain ⟨v,hv,_,hrel⟩:=hj i r0 (off+j) x0 hri hx0
      exact ⟨v,by rw [eAy]; exact hv,hrel.le hle⟩)
     obtain ⟨v,hv1,hv2⟩:=z2p (ρ:=ρ) hx cs h1 h3
     refine z0h.pure hr ?_ hv2
     show (loadVar T _).run P w=_
     exact z2o ht.size ht.agg w _ _ cs (h1.trans hl) (fun j v hv=>z4z hc (h2 j v hv)) v hv1
   ·cases hs
  ·rename_i es hob
   split at hs
   ·rename_i l hp
    obtain ⟨x,hx,rfl⟩:=z2c hs
    cases ha with
    |ptr _ _ _ L hL=>
     obtain ⟨_,ho⟩:=hr.obj id L hL
     rw [hob] at ho
     obtain ⟨hz,c,t,hc,hlen,hj⟩:=ho
     have hri:=hrow.2 es hob
     obtain ⟨hl,hg⟩:=z2g hp
     obtain ⟨cs,h1,h2,h3⟩:=z4l (R:=z0i ρ (z0c ρ h) w) (fun j=>c[L.base+i*L.esz+off+j]?) l (fun j x hx=>by
      have hj':j<ti.size:=by rw [←hl]; exact (eAd.1 hx).1
      obtain ⟨v,hv,_,hrel⟩:=hj i ra (off+j) x hri (by rw [hg j hj']; exact hx)
      exact ⟨v,by rw [eAy]; exact hv,hrel⟩)
     obtain ⟨v,hv1,hv2⟩:=z4i hx cs h1 h3
     refine z0h.pure hr ?_ hv2
     show (loadVar T _).run P w=_
     exact z2o ht.size ht.agg w _ _ cs (h1.trans hl) (fun j v hv=>z4z hc (h2 j v hv)) v hv1
   ·cases hs
  ·cases hs
 ·
  rename_i es off
  cases hn:z60 r ti.size with
  |false=>rw [hn] at hs; cases hs
  |true=>
  rw [hn] at hs
  have hl:=z6z hn
  obtain ⟨x,hx,rfl⟩:=z2c hs
  cases ha with
  |wptr _ _ b o z hlt hO hz hc=>
   obtain ⟨cs,h1,h2,h3⟩:=z4l (R:=z02 (z0c ρ h) w) (fun j=>w.cell? ⟨b,o+off+j,none⟩) r (fun j x hx=>by
    obtain ⟨r0,hr0,hle⟩:=hrow j x hx
    have h1:z=1:=by rw [←hz _ _ hr0, ←hle.1]; rfl
    obtain ⟨y,hy,hyle⟩:=hle.2 0 x rfl
    obtain ⟨v,hv,hrel⟩:=hc _ _ _ _ hr0 hy
    refine ⟨v,?_,hrel.le hyle⟩
    rw [h1,eBx,eAt, ←eAy] at hv; exact hv)
   obtain ⟨v,hv1,hv2⟩:=z2p (ρ:=ρ) hx cs h1 h3
   refine z0h.pure hr ?_ hv2
   show (loadVar T _).run P w=_
   exact z2o ht.size ht.agg w _ _ cs (h1.trans hl) (fun j v hv=>h2 j v hv) v hv1
 ·
  rename_i cells off
  split at hs
  ·rename_i l hp
   obtain ⟨x,hx,rfl⟩:=z2c hs
   cases ha with
   |lptr _ _ b o hlt hO cell hc hr'=>
    obtain ⟨hl,hg⟩:=z2g hp
    obtain ⟨cs,h1,h2,h3⟩:=z4l (R:=z02 (z0c ρ h) w) (fun j=>w.cell? ⟨b,o+off+j,none⟩) l (fun j x hx=>by
     have hj':j<ti.size:=by rw [←hl]; exact (eAd.1 hx).1
     have hx':cells[off+j]?=some x:=by rw [hg j hj']; exact hx
     have hlt':off+j<cells.length:=(eAd.1 hx').1
     exact ⟨cell (off+j),by rw [eAy]; exact hc _ hlt',hr' _ _ hx'⟩)
    obtain ⟨v,hv1,hv2⟩:=z2p (ρ:=ρ) hx cs h1 h3
    refine z0h.pure hr ?_ hv2
    show (loadVar T _).run P w=_
    exact z2o ht.size ht.agg w _ _ cs (h1.trans hl) (fun j v hv=>h2 j v hv) v hv1
  ·cases hs
 ·cases hs
end Go.Am
end
section
namespace Go.Am
theorem z6d {w:World} {b:Nat} {c cs:Array Value} {t:TypeId} {f:Nat×Nat} (h:w.heap[b]?=some (.cells c t f)):w.setRow b cs=World.setObj w b (.cells cs t f):=by
 have hlt:b<w.heap.size:=(eAe.1 h).1
 unfold World.setRow World.setObj
 congr 1
 apply Array.ext_getElem?
 intro i
 rw [eBr,eBs]
 by_cases hi:b=i
 ·subst hi; rw [h]; simp [hlt]
 ·simp [hi]
theorem z0n {w:World} {b:Nat} {c:Array Value} {t:TypeId} {f:Nat×Nat} (h:w.heap[b]?=some (.cells c t f)):z0t w b=some c.size:=by
 simp [z0t,h]
theorem y1u {ρ:Rho} {O:Nat→Prop} {w:World} {x:AV} {v:Value} {l:List AV} (h:z1w x=some l) (hv:z0i ρ O w x v):
  v.cells.size=l.length∧∀ (j:Nat) (y:AV),l[j]?=some y→∃ u,v.cells[j]?=some u∧z0i ρ O w y u:=by
 have one:∀ (v:Value),(∀ cs,v≠ .agg cs)→v.cells=#[v]:=by
  intro v hv; cases v<;>first|rfl|exact absurd rfl (hv _)
 have single:∀ (x:AV) (v:Value),z0i ρ O w x v→(∀ cs,v≠ .agg cs)→v.cells.size=[x].length∧∀ (j:Nat) (y:AV),[x][j]?=some y→∃ u,v.cells[j]?=some u∧z0i ρ O w y u:=by
  intro x v hx hn
  rw [one v hn]
  refine ⟨rfl,fun j y hy=>?_⟩
  cases j with
  |zero=>simp at hy; subst hy; exact ⟨v,by simp,hx⟩
  |succ j=>simp at hy
 have hv0:=hv
 cases hv with
 |bot=>simp [z1w] at h
 |d hd=>
  have hd0:=hd
  cases hd with
  |agg ds vs hl hh=>
   simp [z1w] at h; subst h
   refine ⟨by simp [Value.cells,hl,z0o],fun j y hy=>?_⟩
   rw [z03] at hy
   cases hq:ds[j]? with
   |none=>simp [hq] at hy
   |some d=>
    simp [hq] at hy; subst hy
    have hj:j<vs.size:=by rw [hl]; exact (eAd.1 hq).1
    have:=hh j d hq
    rw [z7n (eAm hj)] at this
    exact ⟨vs[j],by simp [Value.cells,hj], .d this⟩
  |bool b=>simp [z1w] at h; subst h; exact single _ _ hv0 (by simp)
  |int k n=>simp [z1w] at h; subst h; exact single _ _ hv0 (by simp)
  |str s=>simp [z1w] at h; subst h; exact single _ _ hv0 (by simp)
  |nilp=>simp [z1w] at h; subst h; exact single _ _ hv0 (by simp)
  |nilm=>simp [z1w] at h; subst h; exact single _ _ hv0 (by simp)
  |nilf=>simp [z1w] at h; subst h; exact single _ _ hv0 (by simp)
  |nili=>simp [z1w] at h; subst h; exact single _ _ hv0 (by simp)
  |lnil=>simp [z1w] at h; subst h; exact single _ _ hv0 (by simp)
  |list=>simp [z1w] at h; subst h; exact single _ _ hv0 (by simp)
  |ref=>simp [z1w] at h; subst h; exact single _ _ hv0 (by simp)
 |agg xs vs hl hh=>
  simp [z1w] at h; subst h
  refine ⟨by simp [Value.cells,hl],fun j y hy=>?_⟩
  have hj:j<vs.size:=by rw [hl]; exact (eAd.1 hy).1
  have:=hh j y hy
  rw [z7n (eAm hj)] at this
  exact ⟨vs[j],by simp [Value.cells,hj],this⟩
 |tuple=>simp [z1w] at h
 |bptr=>simp [z1w] at h; subst h; exact single _ _ hv0 (by simp)
 |ptr=>simp [z1w] at h; subst h; exact single _ _ hv0 (by simp)
 |lptr=>simp [z1w] at h; subst h; exact single _ _ hv0 (by simp)
 |wptr=>simp [z1w] at h; subst h; exact single _ _ hv0 (by simp)
 |perm=>simp [z1w] at h
 |slice=>simp [z1w] at h; subst h; exact single _ _ hv0 (by simp)
 |nils=>simp [z1w] at h; subst h; exact single _ _ hv0 (by simp)
 |map=>simp [z1w] at h; subst h; exact single _ _ hv0 (by simp)
 |yld=>simp [z1w] at h; subst h; exact single _ _ hv0 (by simp)
 |clo=>simp [z1w] at h; subst h; exact single _ _ hv0 (by simp)
 |iface=>simp [z1w] at h; subst h; exact single _ _ hv0 (by simp)
theorem y0t {ρ:Rho} {O:Nat→Prop} {w:World} {x:AV} {v:Value} (h:x95 x=true) (hv:z0i ρ O w x v):v.oneCell'=true:=by
 cases hv with
 |bot=>simp [x95] at h
 |d hd=>cases hd<;>first|rfl|simp [x95] at h
 |agg=>simp [x95] at h
 |tuple=>simp [x95] at h
 |perm=>simp [x95] at h
 |_=>rfl
theorem z61 {l:List AV} (h:z58 l=true) {j:Nat} {y:AV} (hy:l[j]?=some y):x95 y=true:=by
 induction l generalizing j with
 |nil=>simp at hy
 |cons x l ih=>
  simp [z58] at h
  cases j with
  |zero=>simp at hy; subst hy; exact h.1
  |succ j=>exact ih h.2 (by simpa using hy)
theorem x5w {ρ:Rho} {O:Nat→Prop} {w:World} {l:List AV} {v:Value} (h:z58 l=true) (hs:v.cells.size=l.length)
  (hv:∀ (j:Nat) (y:AV),l[j]?=some y→∃ u,v.cells[j]?=some u∧z0i ρ O w y u):∀ u∈v.cells.toList,u.oneCell'=true:=by
 intro u hu
 obtain ⟨j,hj,hju⟩:=List.getElem_of_mem hu
 have hj':j<l.length:=by rw [←hs]; simpa using hj
 obtain ⟨u',hu',hr⟩:=hv j l[j] (eAa hj')
 have:u'=u:=by
  have h2:v.cells[j]?=some u:=by rw [←hju]; simp [eAm (by simpa using hj)]
  rw [h2] at hu'; cases hu'; rfl
 subst this
 exact y0t (z61 h (eAa hj')) hr
theorem z4f {α:Type} (cur vs:List α) (o j:Nat) (h:o+vs.length≤cur.length):
  (cur.take o++vs++cur.drop (o+vs.length))[j]?=if o≤j∧j<o+vs.length then vs[j - o]? else cur[j]?:=by
 rw [eCg,eAs]
 have ho:(cur.take o).length=o:=by simp; omega
 rw [ho]
 split
 ·rename_i h1
  rw [if_neg (by omega),List.getElem?_take,if_pos h1]
 ·rename_i h1
  rw [eAs]
  split
  ·rename_i h2; rw [if_pos (by omega)]
  ·rename_i h2; rw [if_neg (by omega),eBp]; congr 1; omega
theorem z7h {P:Program} {T:TypeId} {n:Nat} (hs:z78 P T=some n) {w:World} {b o:Nat} {c:Array Value} {t:TypeId} (hc:w.heap[b]?=some (.cells c t (0,0)))
  {v:Value} (hn:v.cells.size=n) (h1:∀ u∈v.cells.toList,u.oneCell'=true) (hr:o+n≤c.size):
  (Instr.storeAt T (.pointer (some ⟨b,o,none⟩)) v).run P w= .ok () (World.setObj w b (.cells (c.toList.take o++v.cells.toList++c.toList.drop (o+v.cells.toList.length)).toArray t (0,0))):=by
 have:=run_storeCells_at (P:=P) b o t v.cells.toList 0 c w hc (by simp; omega) h1
 rw [z6d hc] at this
 simp only [eAt] at this
 simp [Instr.storeAt,Instr.sureAddr,storeVar,z0v hs,hn,this]
def z3x (s:Sem Unit):Sem Value:=do s; pure undef
theorem y8a (ds:List D) (i:Nat):(x7t ds)[i]?=(ds[i]?).map fun x=>[x]:=by
 induction ds generalizing i with
 |nil=>simp [x7t]
 |cons x l ih=>cases i<;>simp [x7t,ih]
theorem x3r (ds:List D):(x7t ds).length=ds.length:=by
 induction ds with
 |nil=>rfl
 |cons x l ih=>simp [x7t,ih]
theorem x7z {α:Type} (l:List α):x3v l=l.length:=by
 induction l with
 |nil=>rfl
 |cons x l ih=>simp [x3v,ih]
theorem y5u {P:Program} {ρ:Rho} {h:List AO} {w:World} {T:TypeId} {size:Nat} (hsz:z78 P T=some size) (hr:z0a P ρ h w) {id off:Nat} {es:List (List D)} (hob:z0e h id= .row es) {L:Loc} (hL:ρ id=some L) (h1:L.esz=1)
  {cells:List AV} {ds:List D} (hds:y8x cells=some ds) {vx:Value} (hn:vx.cells.size=size) (hlen:cells.length=size) (hone:∀ u∈vx.cells.toList,u.oneCell'=true)
  (hcv:∀ (j:Nat) (y:AV),cells[j]?=some y→∃ u,vx.cells[j]?=some u∧z0i ρ (z0c ρ h) w y u) (hpos:1≤size) (hroom:off+size≤es.length) (es':List (List D))
  (hes:∀ i,es'[i]?=if off≤i∧i<off+ds.length then (ds[i - off]?).map (fun x=>[x]) else es[i]?) (new:Nat):
  z0h P ρ h w new (z3x (Instr.storeAt T (.pointer (some ⟨L.blk,L.base+off,none⟩)) vx)) ⟨true, .bot,[(id, .row es')]⟩:=by
 obtain ⟨_,ho⟩:=hr.obj id L hL
 rw [hob] at ho
 obtain ⟨hz,c,t,hc,hle,hj⟩:=ho
 have hdl:ds.length=cells.length:=by rw [z1i hds,z0o]
 have hlast:L.base+off+size≤c.size:=by
  have hlt:off+size - 1<es.length:=by omega
  have hl0:=hle _ _ (eAa hlt)
  obtain ⟨v,hv,_,_⟩:=hj (off+size - 1) _ 0 _ (eAa hlt) (eAa (by omega))
  have:=(eAe.1 hv).1
  rw [h1] at this; omega
 have hrun:=z7h (P:=P) hsz hc hn hone hlast
 have hlive:(z0e h id).live=true:=by rw [hob]; rfl
 have hbs:∀ m,z0t w L.blk=some m→z0t (World.setObj w L.blk (.cells (c.toList.take (L.base+off)++vx.cells.toList++c.toList.drop (L.base+off+vx.cells.toList.length)).toArray t (0,0))) L.blk=some m:=by
  intro m hm
  rw [z0n hc] at hm; cases hm
  rw [z0n (z0l _ _ _ (eAe.1 hc).1)]
  congr 1
  simp; omega
 have hk:=z1d hr hL hlive (.row es') rfl _ hbs
 refine ⟨undef,_,ρ,by simp only [z3x,Sem.run_bind,hrun,Result.andThen_ok,Sem.run_pure], .bot _,hr.set hL hlive _ rfl _ hbs ?_,Ext.set _ hr hL hlive _ rfl _ hbs, .inl rfl⟩
 have hvl:vx.cells.toList.length=cells.length:=by simp; omega
 refine ⟨hz,_,t,z0l _ _ _ (eAe.1 hc).1,fun k q hq=>?_,fun k q j y hq hy=>?_⟩
 ·rw [hes] at hq
  split at hq
  ·cases hd:ds[k - off]? with
   |none=>rw [hd] at hq; cases hq
   |some d=>rw [hd] at hq; cases hq; exact h1.symm
  ·exact hle k q hq
 ·have hsp:=z4f c.toList vx.cells.toList (L.base+off) (L.base+k*L.esz+j) (by simp; omega)
  rw [eBc]
  rw [hes] at hq
  split at hq
  ·rename_i hin
   cases hd:ds[k - off]? with
   |none=>rw [hd] at hq; cases hq
   |some d=>
    rw [hd] at hq; cases hq
    cases j with
    |succ j=>simp at hy
    |zero=>
     simp at hy; subst hy
     have hy2:cells[k - off]?=some (.d d):=by rw [z1i hds,z03,hd]; rfl
     obtain ⟨u,hu,hrel⟩:=hcv _ _ hy2
     rw [if_pos (by rw [h1]; omega)] at hsp
     rw [hsp,show L.base+k*L.esz+0 - (L.base+off)=k - off by rw [h1]; omega]
     cases hrel with
     |d hrel=>exact ⟨u,by simpa using hu,hone u (by rw [eAe] at hu; obtain ⟨h1,h2⟩:=hu; rw [←h2]; simp),hrel.keep hk⟩
  ·rename_i hin
   obtain ⟨u,hu,hu1,hrel⟩:=hj k q j y hq hy
   have hqj:j<L.esz:=by rw [←hle k q hq]; exact (eAd.1 hy).1
   have hne:¬ (L.base+off≤L.base+k*L.esz+j∧L.base+k*L.esz+j<L.base+off+vx.cells.toList.length):=by
    rintro ⟨g1,g2⟩
    rw [h1] at g1 g2 hqj
    exact hin (by omega)
   rw [if_neg hne] at hsp
   exact ⟨u,by rw [hsp]; simpa using hu,hu1,hrel.keep hk⟩
theorem y28 (es:List (List D)) (i:Nat):(z4c es)[i]?=(es[i]?).map toA:=by
 induction es generalizing i with
 |nil=>simp [z4c]
 |cons x l ih=>cases i with
  |zero=>simp [z4c]
  |succ i=>simp [z4c,ih]
theorem w0s {P:Program} {ρ:Rho} {O:Nat→Prop} {w:World} {L:Loc} {es:List (List D)} (ho:z0u P ρ O w L (.row es)) {i:Nat} {r r0:List D} (hi:es[i]?=some r0) (hle:y8y r0 r):z0u P ρ O w L (.arow ((z4c es).set i (toA r))):=by
 obtain ⟨hz,c,t,hc,hl,hj⟩:=ho
 refine ⟨hz,c,t,hc,fun k q hq=>?_,fun k q j y hq hy=>?_⟩
 ·rw [eBm] at hq
  split at hq
  ·split at hq
   ·cases hq; rw [z0o,hle.1]; exact hl i r0 hi
   ·cases hq
  ·rw [y28] at hq
   cases hk:es[k]? with
   |none=>rw [hk] at hq; cases hq
   |some q0=>rw [hk] at hq; cases hq; rw [z0o]; exact hl k q0 hk
 ·rw [eBm] at hq
  split at hq
  ·rename_i hki
   subst hki
   split at hq
   ·cases hq
    rw [z03] at hy
    cases hrj:r[j]? with
    |none=>rw [hrj] at hy; cases hy
    |some d=>
     rw [hrj] at hy; cases hy
     obtain ⟨y0,hy0,hyle⟩:=hle.2 j d hrj
     obtain ⟨u,hu,hu1,hrel⟩:=hj i r0 j y0 hi hy0
     exact ⟨u,hu,hu1, .d (hrel.le hyle)⟩
   ·cases hq
  ·rw [y28] at hq
   cases hk:es[k]? with
   |none=>rw [hk] at hq; cases hq
   |some q0=>
    rw [hk] at hq; cases hq
    rw [z03] at hy
    cases hrj:q0[j]? with
    |none=>rw [hrj] at hy; cases hy
    |some d=>
     rw [hrj] at hy; cases hy
     obtain ⟨u,hu,hu1,hrel⟩:=hj k q0 j d hk hrj
     exact ⟨u,hu,hu1, .d hrel⟩
theorem y5v {P:Program} {ρ:Rho} {h:List AO} {w:World} {T:TypeId} {size:Nat} (hT:z78 P T=some size) (hr:z0a P ρ h w) {id:Nat} {L:Loc} (hL:ρ id=some L) (hlive:(z0e h id).live=true) {es:List (List AV)}
  (ho:z0u P ρ (z0c ρ h) w L (.arow es)) {i off:Nat} {ra cells l:List AV} (hri:es[i]?=some ra) (hov:x19 ra off cells=some l) {vx:Value} (hn:vx.cells.size=size) (hsz:vx.cells.size=cells.length) (hone:∀ u∈vx.cells.toList,u.oneCell'=true)
  (hcv:∀ (j:Nat) (y:AV),cells[j]?=some y→∃ u,vx.cells[j]?=some u∧z0i ρ (z0c ρ h) w y u) (hpos:1≤size) (hlen:cells.length=size) (new:Nat):
  z0h P ρ h w new (z3x (Instr.storeAt T (.pointer (some ⟨L.blk,L.base+i*L.esz+off,none⟩)) vx)) ⟨true, .bot,[(id, .arow (es.set i l))]⟩:=by
 obtain ⟨hz,c,t,hc,hle,hj⟩:=ho
 have hrl:=hle i ra hri
 obtain ⟨o1,o2,o3⟩:=z8h hov
 have hrl:=hle i ra hri
 have hroom:L.base+i*L.esz+off+size≤c.size:=by
  have hlt:L.esz - 1<ra.length:=by omega
  obtain ⟨v,hv,_,_⟩:=hj i ra (L.esz - 1) _ hri (eAa hlt)
  have:=(eAe.1 hv).1
  omega
 have hrun:=z7h (P:=P) hT hc hn hone hroom
 have hbs:∀ m,z0t w L.blk=some m→z0t (World.setObj w L.blk (.cells (c.toList.take (L.base+i*L.esz+off)++vx.cells.toList++c.toList.drop (L.base+i*L.esz+off+vx.cells.toList.length)).toArray t (0,0))) L.blk=some m:=by
  intro m hm
  rw [z0n hc] at hm; cases hm
  rw [z0n (z0l _ _ _ (eAe.1 hc).1)]
  congr 1
  simp; omega
 have hk:=z1d hr hL hlive (.arow (es.set i l)) rfl _ hbs
 refine ⟨undef,_,ρ,by simp only [z3x,Sem.run_bind,hrun,Result.andThen_ok,Sem.run_pure], .bot _,hr.set hL hlive _ rfl _ hbs ?_,Ext.set _ hr hL hlive _ rfl _ hbs, .inl rfl⟩
 have hvl:vx.cells.toList.length=cells.length:=by simpa using hsz
 refine ⟨hz,_,t,z0l _ _ _ (eAe.1 hc).1,fun k q hq=>?_,fun k q j y hq hy=>?_⟩
 ·simp only [eBm] at hq
  split at hq
  ·split at hq
   ·cases hq; omega
   ·cases hq
  ·exact hle k q hq
 ·have hsp:=z4f c.toList vx.cells.toList (L.base+i*L.esz+off) (L.base+k*L.esz+j) (by simp; omega)
  rw [eBc]
  simp only [eBm] at hq
  split at hq
  ·rename_i hki
   subst hki
   split at hq
   ·cases hq
    rw [o3 j] at hy
    by_cases hin:off≤j∧j<off+cells.length
    ·rw [if_pos hin] at hy
     obtain ⟨u,hu,hrel⟩:=hcv _ _ hy
     rw [if_pos (by omega)] at hsp
     rw [hsp,show L.base+i*L.esz+j - (L.base+i*L.esz+off)=j - off by omega]
     exact ⟨u,by simpa using hu,hone u (by rw [eAe] at hu; obtain ⟨h1,h2⟩:=hu; rw [←h2]; simp),hrel.keep hk (fun _ _ h=>h)⟩
    ·rw [if_neg hin] at hy
     obtain ⟨u,hu,hu1,hrel⟩:=hj i ra j y hri hy
     rw [if_neg (by omega)] at hsp
     exact ⟨u,by rw [hsp]; simpa using hu,hu1,hrel.keep hk (fun _ _ h=>h)⟩
   ·cases hq
  ·rename_i hki
   obtain ⟨u,hu,hu1,hrel⟩:=hj k q j y hq hy
   have hqj:j<L.esz:=by rw [←hle k q hq]; exact (eAd.1 hy).1
   have hne:¬ (L.base+i*L.esz+off≤L.base+k*L.esz+j∧L.base+k*L.esz+j<L.base+i*L.esz+off+vx.cells.toList.length):=by
    rintro ⟨g1,g2⟩
    rcases Nat.lt_or_gt_of_ne hki with hlt|hlt
    ·have:(i+1)*L.esz≤k*L.esz:=eAo _ hlt
     rw [eAl] at this; omega
    ·have:(k+1)*L.esz≤i*L.esz:=eAo _ hlt
     rw [eAl] at this; omega
   rw [if_neg hne] at hsp
   exact ⟨u,by rw [hsp]; simpa using hu,hu1,hrel.keep hk (fun _ _ h=>h)⟩
theorem y9c {P : Program} {T : TypeId} {ti : TI} (ht : z5t P T ti) (p : Prim) (hp : p = std) {ρ : Rho} {h : List AO} {w : World} (hr : z0a P ρ h w) {r : List D} {ra : List AV} {a x : AV} {va vx : Value}
    (ha : z0i ρ (z0c ρ h) w a va) (hx : z0i ρ (z0c ρ h) w x vx) (hrow : x1g h a r ra) {res : Res} (hs : z4q p ti h r ra a x = some res) (hres : res.c = true) (new : Nat) :
    z0h P ρ h w new (z3x (Instr.storeAt T va vx)) res := by
  unfold z4q at hs
  split at hs
  rotate_left
  · cases hs
  rename_i cells hcells
  obtain ⟨hsz, hcv⟩ := y1u hcells hx
  cases hb : (Nat.ble 1 ti.size && (z60 cells ti.size && z58 cells)) with
  | false => rw [hb] at hs; cases hs
  | true =>
  rw [hb] at hs
  simp only [eAb] at hb
  obtain ⟨hpos, hlen, hlv⟩ := hb
  have hpos := eAf hpos
  have hlen := z6z hlen
  have hone := x5w hlv hsz hcv
  have hn : vx.cells.size = ti.size := hsz.trans hlen
  simp only [cond_true] at hs
  unfold z4d at hs
  split at hs
  ·
    rename_i id off
    split at hs
    · rename_i old hob
      split at hs
      · rename_i l hov
        cases hs
        cases ha with
        | bptr _ _ L hL =>
          obtain ⟨_, ho⟩ := hr.obj id L hL
          rw [hob] at ho
          obtain ⟨hbase, c, t, hc, hj⟩ := ho
          obtain ⟨o1, o2, o3⟩ := z8h hov
          have hroom : L.base + off + ti.size ≤ c.size := by
            have hlt : off + ti.size - 1 < old.length := by omega
            obtain ⟨v, hv, _⟩ := hj (off + ti.size - 1) _ (eAa hlt)
            have := (eAe.1 hv).1
            omega
          have hrun := z7h (P := P) ht.size hc hn hone hroom
          have hlive : (z0e h id).live = true := by rw [hob]; rfl
          have hbs : ∀ m, z0t w L.blk = some m → z0t (World.setObj w L.blk (.cells (c.toList.take (L.base + off) ++ vx.cells.toList ++ c.toList.drop (L.base + off + vx.cells.toList.length)).toArray t (0, 0))) L.blk = some m := by
            intro m hm
            rw [z0n hc] at hm; cases hm
            rw [z0n (z0l _ _ _ (eAe.1 hc).1)]
            congr 1
            simp; omega
          have hk := z1d hr hL hlive (.box l) rfl _ hbs
          refine ⟨undef, _, ρ, by simp only [z3x, Sem.run_bind, hrun, Result.andThen_ok, Sem.run_pure], .bot _, hr.set hL hlive _ rfl _ hbs ?_, Ext.set _ hr hL hlive _ rfl _ hbs, .inl rfl⟩
          refine ⟨hbase, _, t, z0l _ _ _ (eAe.1 hc).1, fun j y hy => ?_⟩
          rw [o3 j] at hy
          have hsp := z4f c.toList vx.cells.toList (L.base + off) (L.base + j) (by simp; omega)
          have hvl : vx.cells.toList.length = cells.length := by simpa using hsz
          by_cases hin : off ≤ j ∧ j < off + cells.length
          · rw [if_pos hin] at hy
            obtain ⟨u, hu, hrel⟩ := hcv _ y hy
            refine ⟨u, ?_, hrel.keep hk (fun _ _ h => h)⟩
            rw [if_pos (by omega)] at hsp
            rw [eBc, hsp, show L.base + j - (L.base + off) = j - off by omega]
            simpa using hu
          · rw [if_neg hin] at hy
            obtain ⟨u, hu, hrel⟩ := hj j y hy
            refine ⟨u, ?_, hrel.keep hk (fun _ _ h => h)⟩
            rw [if_neg (by omega)] at hsp
            rw [eBc, hsp]
            simpa using hu
      · cases hs
    · rename_i es hob
      subst hp
      cases ha with
      | bptr _ _ L hL =>
        have ho := (hr.obj id L hL).2
        rw [hob] at ho
        have ho2 := ho
        obtain ⟨_, c, t, hc, _, _⟩ := ho
        have hcell := fun x0 hr0 => z7t ho2 (hrow es hob) hc (j := 0) (x := x0) hr0
        split at hs
        · rename_i x1 x0 hds
          cases hs
          obtain ⟨h1, hlt, _⟩ := hcell x0 rfl
          have hsz1 : ti.size = 1 := by rw [← hlen, z1i hds]; rfl
          refine y5u ht.size hr hob hL h1 hds hn hlen hone hcv hpos (by omega) _ (fun i => ?_) new
          simp only [std, eBm]
          by_cases hi : off = i
          · subst hi; simp; omega
          · rw [if_neg hi, if_neg (by simp; omega)]
        · rename_i ds x0 _ hds
          cases hs
          obtain ⟨h1, hlt, _⟩ := hcell x0 rfl
          have hdl : ds.length = cells.length := by rw [z1i hds, z0o]
          have hroom : off + ds.length ≤ es.length := by
            simp only [std, x7z] at hres
            exact eAf hres
          have := y5u (off := off) ht.size hr hob hL h1 hds hn hlen hone hcv hpos (by omega) (std.splice es off (x7t ds)) (fun i => by
            have := z4f es (x7t ds) off i (by rw [x3r]; exact hroom)
            simp only [std, x3r] at this ⊢
            rw [this, y8a]) new
          obtain ⟨v', w', ρ', a1, a2, a3, a4, a5⟩ := this
          exact ⟨v', w', ρ', a1, a2, a3, a4, a5⟩
        · cases hs
    · cases hs
  ·
    rename_i id i off
    split at hs
    ·
      rename_i es hob
      split at hs
      · rename_i ds hds
        split at hs
        · rename_i l hov
          cases hs
          cases ha with
          | ptr _ _ _ L hL =>
            obtain ⟨_, ho⟩ := hr.obj id L hL
            rw [hob] at ho
            obtain ⟨hz, c, t, hc, hle, hj⟩ := ho
            obtain ⟨r0, hri, hrle⟩ := hrow.1 es hob
            obtain ⟨o1, o2, o3⟩ := z8h hov
            have hrl0 := hle i r0 hri
            have hrl : r.length = L.esz := hrle.1.trans hrl0
            have hdl : ds.length = cells.length := by rw [z1i hds, z0o]
            have hroom : L.base + i * L.esz + off + ti.size ≤ c.size := by
              have hlt : L.esz - 1 < r0.length := by omega
              obtain ⟨v, hv, _, _⟩ := hj i r0 (L.esz - 1) _ hri (eAa hlt)
              have := (eAe.1 hv).1
              omega
            have hrun := z7h (P := P) ht.size hc hn hone hroom
            have hlive : (z0e h id).live = true := by rw [hob]; rfl
            have hbs : ∀ m, z0t w L.blk = some m → z0t (World.setObj w L.blk (.cells (c.toList.take (L.base + i * L.esz + off) ++ vx.cells.toList ++ c.toList.drop (L.base + i * L.esz + off + vx.cells.toList.length)).toArray t (0, 0))) L.blk = some m := by
              intro m hm
              rw [z0n hc] at hm; cases hm
              rw [z0n (z0l _ _ _ (eAe.1 hc).1)]
              congr 1
              simp; omega
            rw [hp]
            have hk := z1d hr hL hlive (.row (std.set es i l)) rfl _ hbs
            refine ⟨undef, _, ρ, by simp only [z3x, Sem.run_bind, hrun, Result.andThen_ok, Sem.run_pure], .bot _, hr.set hL hlive _ rfl _ hbs ?_, Ext.set _ hr hL hlive _ rfl _ hbs, .inl rfl⟩
            have hvl : vx.cells.toList.length = cells.length := by simpa using hsz
            refine ⟨hz, _, t, z0l _ _ _ (eAe.1 hc).1, fun k q hq => ?_, fun k q j y hq hy => ?_⟩
            · simp only [std, eBm] at hq
              split at hq
              · split at hq
                · cases hq; omega
                · cases hq
              · exact hle k q hq
            · have hsp := z4f c.toList vx.cells.toList (L.base + i * L.esz + off) (L.base + k * L.esz + j) (by simp; omega)
              rw [eBc]
              simp only [std, eBm] at hq
              split at hq
              · rename_i hki
                subst hki
                split at hq
                · cases hq
                  rw [o3 j] at hy
                  by_cases hin : off ≤ j ∧ j < off + ds.length
                  · rw [if_pos hin] at hy
                    have hy2 : cells[j - off]? = some (.d y) := by rw [z1i hds, z03, hy]; rfl
                    obtain ⟨u, hu, hrel⟩ := hcv _ _ hy2
                    rw [if_pos (by omega)] at hsp
                    rw [hsp, show L.base + i * L.esz + j - (L.base + i * L.esz + off) = j - off by omega]
                    cases hrel with
                    | d hrel => exact ⟨u, by simpa using hu, hone u (by rw [eAe] at hu; obtain ⟨h1, h2⟩ := hu; rw [← h2]; simp), hrel.keep hk⟩
                  · rw [if_neg hin] at hy
                    obtain ⟨y0, hy0, hyle⟩ := hrle.2 j y hy
                    obtain ⟨u, hu, hu1, hrel⟩ := hj i r0 j y0 hri hy0
                    rw [if_neg (by omega)] at hsp
                    exact ⟨u, by rw [hsp]; simpa using hu, hu1, (hrel.le hyle).keep hk⟩
                · cases hq
              · rename_i hki
                obtain ⟨u, hu, hu1, hrel⟩ := hj k q j y hq hy
                have hqj : j < L.esz := by rw [← hle k q hq]; exact (eAd.1 hy).1
                have hne : ¬ (L.base + i * L.esz + off ≤ L.base + k * L.esz + j ∧ L.base + k * L.esz + j < L.base + i * L.esz + off + vx.cells.toList.length) := by
                  rintro ⟨g1, g2⟩
                  rcases Nat.lt_or_gt_of_ne hki with hlt | hlt
                  · have : (i + 1) * L.esz ≤ k * L.esz := eAo _ hlt
                    rw [eAl] at this; omega
                  · have : (k + 1) * L.esz ≤ i * L.esz := eAo _ hlt
                    rw [eAl] at this; omega
                rw [if_neg hne] at hsp
                exact ⟨u, by rw [hsp]; simpa using hu, hu1, hrel.keep hk⟩
        · cases hs
      · split at hs
        · rename_i l hov
          cases hs
          cases ha with
          | ptr _ _ _ L hL =>
            have ho := (hr.obj id L hL).2
            rw [hob] at ho
            obtain ⟨r0, hri, hrle⟩ := hrow.1 es hob
            have hil : i < (z4c es).length := by
              have := y28 es i
              rw [hri] at this
              exact (eAd.1 this).1
            have := y5v ht.size hr hL (by rw [hob]; rfl) (w0s ho hri hrle) (i := i) (ra := toA r) (by rw [eBm]; simp [hil]) hov hn hsz hone hcv hpos hlen new
            rw [List.set_set] at this
            exact this
        · cases hs
    ·
      rename_i es hob
      split at hs
      · rename_i l hov
        cases hs
        cases ha with
        | ptr _ _ _ L hL =>
          have ho := (hr.obj id L hL).2
          rw [hob] at ho
          exact y5v ht.size hr hL (by rw [hob]; rfl) ho (hrow.2 es hob) hov hn hsz hone hcv hpos hlen new
      · cases hs
    · cases hs
  · cases hs
end Go.Am
end
section
namespace Go.Am
section
variable {P:Program} {ρ:Rho} {h:List AO} {w:World}
theorem x3a {T:TypeId} {ti:TI} (ht:z5t P T ti) (w:World):∃ z:Value,(zeroValue T).run P w= .ok z w∧z.cells.size=ti.size∧(ti.agg=true→∃ cs,z= .agg cs)∧(ti.agg=false→∀ cs,z≠ .agg cs)∧
  ∀ (O:Nat→Prop) (w':World) (j:Nat) (d:D),ti.zero[j]?=some d→∃ v,z.cells[j]?=some v∧z02 O w' d v:=by
 obtain ⟨i,z,hi,hz,hd,hl,ha,hn⟩:=ht.zero
 obtain ⟨h1,h2⟩:=z68 hd
 refine ⟨z,by simp [zeroValue,typeInfo,hi,hz],by rw [←hl,h1]; simp,ha,hn,fun O w' j d hj=>?_⟩
 obtain ⟨v,hv,hr⟩:=h2 O w' j d hj
 exact ⟨v,by simpa using hv,hr⟩
theorem y1k (hr:z0a P ρ h w) {new:Nat} (hn:ρ new=none) {T:TypeId} {s:Sem Value} (c:Array Value) (x:AV) (o:AO) (cap:Nat) (esz:Nat) (v:Value)
  (hs:s.run P w= .ok v (World.push w (.cells c T)))
  (ho:z0u P (ρ.put new ⟨w.heap.size,0,esz⟩) (z0c (ρ.put new ⟨w.heap.size,0,esz⟩) (z0x h new o)) (World.push w (.cells c T)) ⟨w.heap.size,0,esz⟩ o)
  (hv:z0i (ρ.put new ⟨w.heap.size,0,esz⟩) (z0c (ρ.put new ⟨w.heap.size,0,esz⟩) (z0x h new o)) (World.push w (.cells c T)) x v):
  z0h P ρ h w new s ⟨true,x,[(new,o)]⟩:=
 ⟨v,_,_,hs,hv,hr.new hn esz o _ ho,Ext.new hr hn _ o _ rfl, .inr ⟨o,by simp⟩⟩
theorem y9u {k:IntKind} {l:List D} (h:y0p k l=true):∀ x∈l,x= .int k 0:=by
 induction l with
 |nil=>simp
 |cons d l ih=>
  unfold y0p at h
  split at h
  ·rename_i hd; cases hd
  ·rename_i k' l' hd
   cases hd
   simp only [eAb,beq_iff_eq] at h
   intro x hx
   rcases eAz.1 hx with rfl|hx
   ·rw [h.1]; rfl
   ·exact ih h.2 x hx
  ·cases h
theorem x6s {ti:TI} {k:IntKind} (h:x6t ti=some k):∀ x∈ti.zero,x= .int k 0:=by
 unfold x6t at h
 cases hb:Nat.ble 20 ti.size with
 |false=>rw [hb] at h; cases h
 |true=>
  rw [hb] at h
  simp only [cond_true] at h
  split at h
  ·rename_i k' n l hz
   cases hs:y0p k' ti.zero with
   |false=>rw [hs] at h; cases h
   |true=>rw [hs] at h; cases h; exact y9u hs
  ·cases h
theorem x2l {ds:List D} (h:y39 ds=true):∀ x∈ds,w4t x=true:=by
 induction ds with
 |nil=>simp
 |cons d l ih=>
  simp only [y39,eAb] at h
  intro x hx
  rcases eAz.1 hx with rfl|hx
  ·exact h.1
  ·exact ih h.2 x hx
theorem x5x {O:Nat→Prop} {x:D} {v:Value} (h:w4t x=true) (hr:z02 O w x v):v.oneCell'=true:=by
 cases hr<;>first|rfl|cases h
theorem y9k {T : TypeId} {ti : TI} (ht : z5t P T ti) (hr : z0a P ρ h w) {new : Nat} (hn : ρ new = none) {res : Res} (hs : y0n std ti new = some res) :
    z0h P ρ h w new (Instr.alloc T true (.tuple #[])) res := by
  unfold y0n at hs
  cases hb : Nat.ble 1 ti.size with
  | false => rw [hb] at hs; cases hs
  | true =>
  rw [hb] at hs
  simp only [cond_true] at hs
  obtain ⟨z, hz, hzs, _, _, hzr⟩ := x3a ht w
  have hzl : ti.zero.length = ti.size := by obtain ⟨_, _, _, _, _, hl, _⟩ := ht.zero; exact hl
  split at hs
  · rename_i k hw
    cases hs
    have hall := x6s hw
    refine y1k hr hn (T := T) z.cells (.bptr new 0) (.row (List.replicate ti.size [.int k 0])) 0 1 (.pointer (some ⟨w.heap.size, 0, none⟩)) ?_ ?_ ?_
    · simp only [Instr.alloc, Sem.run_bind, hz, Result.andThen_ok, newVar, newRow, run_newObj, Sem.run_pure]; rfl
    · refine ⟨Nat.one_pos, z.cells, T, z2v _ _, fun i r hi => ?_, fun i r j x hi hx => ?_⟩
      · rw [eCf] at hi
        split at hi
        · cases hi; rfl
        · cases hi
      · rw [eCf] at hi
        split at hi
        · rename_i hlt
          cases hi
          cases j with
          | succ j => simp at hx
          | zero =>
            simp at hx; subst hx
            have hq : ti.zero[i]? = some (.int k 0) := by
              rw [eAa (by omega)]
              exact congrArg some (hall _ (eCp _))
            obtain ⟨v, hv, hrel⟩ := hzr (z0c (ρ.put new ⟨w.heap.size, 0, 1⟩) (z0x h new (.row (List.replicate ti.size [.int k 0])))) (World.push w (.cells z.cells T)) i _ hq
            refine ⟨v, by simpa using hv, ?_, hrel⟩
            cases hrel; rfl
        · cases hi
    · exact .bptr new 0 ⟨w.heap.size, 0, 1⟩ (Rho.put_same _ _ _)
  cases hs
  refine y1k hr hn (T := T) z.cells (.bptr new 0) (.box (toA ti.zero)) 0 ti.size (.pointer (some ⟨w.heap.size, 0, none⟩)) ?_ ?_ ?_
  · simp only [Instr.alloc, Sem.run_bind, hz, Result.andThen_ok, newVar, newRow, run_newObj, Sem.run_pure]; rfl
  · refine ⟨rfl, z.cells, T, z2v _ _, fun j x hx => ?_⟩
    rw [z03] at hx
    cases hq : ti.zero[j]? with
    | none => simp [hq] at hx
    | some d =>
      simp [hq] at hx; subst hx
      obtain ⟨v, hv, hrel⟩ := hzr (z0c (ρ.put new ⟨w.heap.size, 0, ti.size⟩) (z0x h new (.box (toA ti.zero)))) (World.push w (.cells z.cells T)) j d hq
      exact ⟨v, by simpa using hv, .d hrel⟩
  · exact .bptr new 0 ⟨w.heap.size, 0, ti.size⟩ (Rho.put_same _ _ _)
theorem x5e {T : TypeId} {ti : TI} (ht : z5t P T ti) (hr : z0a P ρ h w) {new : Nat} (hn : ρ new = none) {x : AV} {v : Value} (hx : z0i ρ (z0c ρ h) w x v) {res : Res}
    (hs : y7n ti new x = some res) : z0h P ρ h w new (Instr.box T v) res := by
  unfold y7n at hs
  cases hb : Nat.ble 1 ti.size with
  | false => rw [hb] at hs; cases hs
  | true =>
  rw [hb] at hs
  simp only [cond_true] at hs
  split at hs
  · rename_i l hl
    cases hc : z60 l ti.size with
    | false => rw [hc] at hs; cases hs
    | true =>
    rw [hc] at hs
    simp only [cond_true] at hs
    obtain ⟨h1, h2⟩ := y1u hl hx
    split at hs
    · split at hs
      · rename_i ds hds
        cases hld : y39 ds with
        | false => rw [hld] at hs; cases hs
        | true =>
        rw [hld] at hs; cases hs
        refine y1k hr hn (T := T) v.cells (.bptr new 0) (.row (x7t ds)) 0 1 (.pointer (some ⟨w.heap.size, 0, none⟩)) ?_ ?_ ?_
        · simp only [Instr.box, Sem.run_bind, newVar, newRow, run_newObj, Result.andThen_ok, Sem.run_pure]; rfl
        · refine ⟨Nat.one_pos, v.cells, T, z2v _ _, fun i r hi => ?_, fun i r j x hi hx => ?_⟩
          · rw [y8a] at hi
            cases hd : ds[i]? with
            | none => rw [hd] at hi; cases hi
            | some d => rw [hd] at hi; cases hi; rfl
          · rw [y8a] at hi
            cases hd : ds[i]? with
            | none => rw [hd] at hi; cases hi
            | some d =>
              rw [hd] at hi; cases hi
              cases j with
              | succ j => simp at hx
              | zero =>
                simp at hx; subst hx
                obtain ⟨u, hu, hrel⟩ := h2 i (.d d) (by rw [z1i hds, z03, hd]; rfl)
                cases hrel with
                | d hrel => exact ⟨u, by simpa using hu, x5x (x2l hld d (eAu hd)) hrel, hrel.keep (z5n hr hn _ _ _ rfl)⟩
        · exact .bptr new 0 ⟨w.heap.size, 0, 1⟩ (Rho.put_same _ _ _)
      · cases hs
    cases hs
    refine y1k hr hn (T := T) v.cells (.bptr new 0) (.box l) 0 ti.size (.pointer (some ⟨w.heap.size, 0, none⟩)) ?_ ?_ ?_
    · simp only [Instr.box, Sem.run_bind, newVar, newRow, run_newObj, Result.andThen_ok, Sem.run_pure]; rfl
    · refine ⟨rfl, v.cells, T, z2v _ _, fun j y hy => ?_⟩
      obtain ⟨u, hu, hrel⟩ := h2 j y hy
      exact ⟨u, by simpa using hu, hrel.keep (z5n hr hn _ _ _ rfl) (Rho.put_mono _ _ _ hn)⟩
    · exact .bptr new 0 ⟨w.heap.size, 0, ti.size⟩ (Rho.put_same _ _ _)
  · cases hs
theorem x8n (cs vs:List Value) (off:Nat) (acc:Array Value) (k:Nat):
  ((vs.zipIdx k).foldl (fun (a:Array Value) (x:Value×Nat)=>a.setIfInBounds (off+x.2) x.1) acc).size=acc.size∧
  (off+k+vs.length≤acc.size→∀ j,((vs.zipIdx k).foldl (fun (a:Array Value) (x:Value×Nat)=>a.setIfInBounds (off+x.2) x.1) acc)[j]?=
   if off+k≤j∧j<off+k+vs.length then vs[j - (off+k)]? else acc[j]?):=by
 induction vs generalizing acc k with
 |nil=>simp; intro _ j h1 h2; omega
 |cons v vs ih=>
  simp only [List.zipIdx_cons,List.foldl_cons]
  obtain ⟨h1,h2⟩:=ih (acc.setIfInBounds (off+k) v) (k+1)
  refine ⟨by rw [h1]; simp,fun hle j=>?_⟩
  rw [h2 (by simp at hle⊢; omega) j,eBs]
  simp only [eBi] at hle⊢
  by_cases hj:j=off+k
  ·subst hj
   rw [if_neg (by omega),if_pos rfl,if_pos (by omega),if_pos (by omega)]
   simp
  ·rw [if_neg (show ¬ off+k=j by omega)]
   by_cases hin:off+(k+1)≤j∧j<off+(k+1)+vs.length
   ·rw [if_pos hin,if_pos (by omega),show j - (off+k)=(j - (off+(k+1)))+1 by omega]; simp
   ·rw [if_neg hin,if_neg (by omega)]
theorem y2w {O:Nat→Prop} (place:Nat→Option (Nat×Nat)):∀ (parts:List (Nat×AV)) (pv:List (Nat×Value)) (cells r:List AV) (cv:Array Value),
  y5h place cells parts=some r→pv.length=parts.length→(∀ (k:Nat) (x:Nat×AV) (y:Nat×Value),parts[k]?=some x→pv[k]?=some y→x.1=y.1∧z0i ρ O w x.2 y.2)→
  cv.size=cells.length→(∀ (j:Nat) (x:AV),cells[j]?=some x→∃ v,cv[j]?=some v∧z0i ρ O w x v)→
  ∃ rv:Array Value,Instr.fill place cv pv=some rv∧rv.size=r.length∧(∀ (j:Nat) (x:AV),r[j]?=some x→∃ v,rv[j]?=some v∧z0i ρ O w x v)
 |[],pv,cells,r,cv,hf,hl,hp,hs,hc=>by
  simp [y5h] at hf; subst hf
  cases pv with
  |nil=>exact ⟨cv,rfl,hs,hc⟩
  |cons _ _=>simp at hl
 |(i,x)::rest,pv,cells,r,cv,hf,hl,hp,hs,hc=>by
  cases pv with
  |nil=>simp at hl
  |cons y pv=>
   obtain ⟨i',v⟩:=y
   obtain ⟨e,hxv⟩:=hp 0 (i,x) (i',v) (by simp) (by simp)
   simp at e; subst e
   simp only [y5h] at hf
   split at hf
   ·rename_i off size cs hpl hcx
    cases hb:z60 cs size with
    |false=>rw [hb] at hf; cases hf
    |true=>
    rw [hb] at hf
    simp only [cond_true] at hf
    split at hf
    ·rename_i l hov
     obtain ⟨c1,c2⟩:=y1u hcx hxv
     obtain ⟨o1,o2,o3⟩:=z8h hov
     have hsz:=z6z hb
     obtain ⟨f1,f2⟩:=x8n [] v.cells.toList off cv 0
     simp only [eAt] at f2
     have hvl:v.cells.toList.length=cs.length:=by simpa using c1
     have hroom:off+v.cells.toList.length≤cv.size:=by omega
     have hfold:v.cells.zipIdx.foldl (fun cs (x:Value×Nat)=>cs.setIfInBounds (off+x.2) x.1) cv=(v.cells.toList.zipIdx 0).foldl (fun (a:Array Value) (x:Value×Nat)=>a.setIfInBounds (off+x.2) x.1) cv:=by
      rw [←Array.foldl_toList]; simp
     obtain ⟨rv,g1,g2,g3⟩:=y2w place rest pv l r _ hf (by simpa using hl) (fun k a b ha hb=>hp (k+1) a b (by simpa using ha) (by simpa using hb))
      (by rw [f1,hs, ←o1]) (fun j y hy=>by
       rw [f2 hroom j]
       rw [o3 j] at hy
       by_cases hin:off≤j∧j<off+cs.length
       ·rw [if_pos hin] at hy
        rw [if_pos (by omega)]
        obtain ⟨u,hu,hrel⟩:=c2 _ y hy
        exact ⟨u,by simpa using hu,hrel⟩
       ·rw [if_neg hin] at hy
        rw [if_neg (by omega)]
        exact hc j y hy)
     refine ⟨rv,?_,g2,g3⟩
     simp only [Instr.fill,hpl]
     rw [if_neg]
     ·rw [hfold]; exact g1
     ·simp only [eAq,decide_eq_true_eq,not_or]
      rw [eBa] at hroom
      refine ⟨not_not_intro (c1.trans hsz),by omega⟩
    ·cases hf
   ·cases hf
theorem y3p (w:World) (fs:Array Field) (l:List (Nat×Nat×Bool)) (hl:l.length=fs.size) (h:∀ (i:Nat) (x:Nat×Nat×Bool),l[i]?=some x→∃ f:Field,fs[i]?=some f∧f.offset=x.1∧z78 P f.type=some x.2.1∧z2y P f.type=some x.2.2):
  ∃ ps:Array (Nat×Nat),(fs.mapM (fun f=>(do pure (f.offset, ←sizeOf f.type):Sem (Nat×Nat)))).run P w= .ok ps w∧∀ i,ps[i]?=(z1j l i).map fun f=>(f.1,f.2.1):=by
 have key:∀ (fl:List Field) (l:List (Nat×Nat×Bool)),l.length=fl.length→(∀ (i:Nat) (x:Nat×Nat×Bool),l[i]?=some x→∃ f:Field,fl[i]?=some f∧f.offset=x.1∧z78 P f.type=some x.2.1∧z2y P f.type=some x.2.2)→
   (fl.mapM (fun f=>(do pure (f.offset, ←sizeOf f.type):Sem (Nat×Nat)))).run P w= .ok (l.map fun f=>(f.1,f.2.1)) w:=by
  intro fl
  induction fl with
  |nil=>intro l hl _; cases l<;>simp at hl⊢
  |cons f fl ih=>
   intro l hl h
   cases l with
   |nil=>simp at hl
   |cons x l=>
    obtain ⟨f',hf,ho,hs,_⟩:=h 0 x (by simp)
    simp at hf; subst hf
    have:=ih l (by simpa using hl) (fun i y hy=>by simpa using h (i+1) y (by simpa using hy))
    simp only [List.mapM_cons,Sem.run_bind,z0v hs,Result.andThen_ok,Sem.run_pure,this,List.map_cons,ho]
 refine ⟨(l.map fun f=>(f.1,f.2.1)).toArray,?_,fun i=>by simp [z1b]⟩
 rw [Array.mapM_eq_mapM_toList]
 simp only [Sem.run_map,key fs.toList l (by simpa using hl) (fun i x hx=>by simpa using h i x hx),Result.andThen_ok]
def y2z (ρ:Rho) (O:Nat→Prop) (w:World) (parts:List (Nat×AV)) (pv:List (Nat×Value)):Prop:=
 pv.length=parts.length∧∀ (k:Nat) (x:Nat×AV) (y:Nat×Value),parts[k]?=some x→pv[k]?=some y→x.1=y.1∧z0i ρ O w x.2 y.2
theorem y1z {T:TypeId} {ti:TI} {z:Value} {O:Nat→Prop} (hzr:∀ (O:Nat→Prop) (w':World) (j:Nat) (d:D),ti.zero[j]?=some d→∃ v,z.cells[j]?=some v∧z02 O w' d v):
  ∀ (j:Nat) (x:AV),(toA ti.zero)[j]?=some x→∃ v,z.cells[j]?=some v∧z0i ρ O w x v:=by
 intro j x hx
 rw [z03] at hx
 cases hq:ti.zero[j]? with
 |none=>simp [hq] at hx
 |some d=>
  simp [hq] at hx; subst hx
  obtain ⟨v,hv,hrel⟩:=hzr O w j d hq
  exact ⟨v,hv, .d hrel⟩
theorem y18 {O:Nat→Prop} {l:List AV} {x:AV} (hx:z5m true l=some x) {rv:Array Value} (hl:rv.size=l.length) (h:∀ (j:Nat) (x:AV),l[j]?=some x→∃ v,rv[j]?=some v∧z0i ρ O w x v):
  z0i ρ O w x (.agg rv):=by
 obtain ⟨v,hv,hrel⟩:=z4i hx rv.toList (by simpa using hl) (fun j y v hy hv=>by
  obtain ⟨u,hu,hrel⟩:=h j y hy
  have:rv[j]?=some v:=by simpa using hv
  rw [this] at hu; cases hu; exact hrel)
 simp at hv; subst hv; exact hrel
theorem y9i {T:TypeId} {ti:TI} (ht:z5t P T ti) (hr:z0a P ρ h w) {new:Nat} {parts:List (Nat×AV)} {pv:Array (Nat×Value)}
  (hp:y2z ρ (z0c ρ h) w parts pv.toList) {res:Res} (hs:z8b ti parts=some res):z0h P ρ h w new (Instr.build T pv) res:=by
 obtain ⟨d,hd,hda,hk⟩:=ht.desc
 obtain ⟨z,hz,hzs,hza,hzn,hzr⟩:=x3a ht w
 have hzl:ti.zero.length=ti.size:=by obtain ⟨_,_,_,_,_,hl,_⟩:=ht.zero; exact hl
 unfold z8b at hs
 split at hs
 ·rename_i fs hfs
  rw [hfs] at hk
  obtain ⟨fields,rfl,hk1,hk2⟩:=hk
  split at hs
  ·rename_i l hl
   obtain ⟨x,hx,rfl⟩:=z2c hs
   obtain ⟨ps,hps,hpi⟩:=y3p (P:=P) w fields fs hk1 hk2
   obtain ⟨rv,g1,g2,g3⟩:=y2w (ρ:=ρ) (w:=w) (O:=z0c ρ h) _ parts pv.toList (toA ti.zero) l z.cells hl hp.1 hp.2 (by rw [z0o,hzl,hzs]) (y1z (T:=T) hzr)
   have hfun:(fun i=>(z1j fs i).map fun f=>(f.1,f.2.1))=(fun i=>ps[i]?):=by funext i; rw [hpi i]
   rw [hfun] at g1
   refine z0h.pure (v:= .agg rv) hr ?_ (y18 hx g2 g3)
   simp only [Instr.build,Sem.run_bind,hz,Result.andThen_ok,z0d hd,hps,g1,Sem.run_pure]
  ·cases hs
 ·rename_i n esz ea hfs
  rw [hfs] at hk
  obtain ⟨e,rfl,hk2,hk3⟩:=hk
  split at hs
  ·rename_i l hl
   obtain ⟨x,hx,rfl⟩:=z2c hs
   obtain ⟨rv,g1,g2,g3⟩:=y2w (ρ:=ρ) (w:=w) (O:=z0c ρ h) _ parts pv.toList (toA ti.zero) l z.cells hl hp.1 hp.2 (by rw [z0o,hzl,hzs]) (y1z (T:=T) hzr)
   refine z0h.pure (v:= .agg rv) hr ?_ (y18 hx g2 g3)
   simp only [Instr.build,Sem.run_bind,hz,Result.andThen_ok,z0d hd,z0v hk2,g1,Sem.run_pure]
  ·cases hs
 ·cases hs
theorem z7i {T:TypeId} {ti:TI} (ht:z5t P T ti) {fs:List (Nat×Nat×Bool)} (hfs:ti.desc= .struct fs) {f:Nat} {x:Nat×Nat×Bool} (hx:fs[f]?=some x) (hpos:1≤x.2.1) (b o:Nat):
  (Instr.fieldAt T (.pointer (some ⟨b,o,none⟩)) f).run P w= .ok (.pointer (some ⟨b,o+x.1,none⟩)) w:=by
 obtain ⟨d,hd,hda,hk⟩:=ht.desc
 rw [hfs] at hk
 obtain ⟨fields,rfl,hk1,hk2⟩:=hk
 obtain ⟨g,hg,ho,hsz,_⟩:=hk2 f x hx
 have hne:x.2.1≠0:=by omega
 simp only [Instr.fieldAt,Sem.run_bind,z0d hd,Result.andThen_ok,hg,Instr.sureAddr,Sem.run_pure,fieldPlace,z0v hsz,hne,if_false,Sem.run_ite,z39,ho]
theorem y9e {T:TypeId} {ti:TI} (ht:z5t P T ti) (hr:z0a P ρ h w) {new f:Nat} {a:AV} {v:Value} (ha:z0i ρ (z0c ρ h) w a v) {res:Res} (hs:y0l ti f a=some res):
  z0h P ρ h w new (Instr.fieldAt T v f) res:=by
 unfold y0l at hs
 split at hs
 ·split at hs
  ·rename_i fs hfs
   split at hs
   ·rename_i o s g hx
    rw [z1b] at hx
    cases hb:Nat.ble 1 s with
    |false=>rw [hb] at hs; cases hs
    |true=>
    rw [hb] at hs; cases hs
    cases ha with
    |bptr id off L hL=>
     refine z0h.pure hr (z7i ht hfs hx (eAf hb) _ _) ?_
     rw [eAy]; exact .bptr _ _ L hL
   ·cases hs
  ·cases hs
 ·split at hs
  ·rename_i fs hfs
   split at hs
   ·rename_i o s g hx
    rw [z1b] at hx
    cases hb:Nat.ble 1 s with
    |false=>rw [hb] at hs; cases hs
    |true=>
    rw [hb] at hs; cases hs
    cases ha with
    |ptr id i off L hL=>
     refine z0h.pure hr (z7i ht hfs hx (eAf hb) _ _) ?_
     rw [eAy]; exact .ptr _ _ _ L hL
   ·cases hs
  ·cases hs
 ·split at hs
  ·rename_i fs hfs
   split at hs
   ·rename_i o s g hx
    rw [z1b] at hx
    cases hb:Nat.ble 1 s with
    |false=>rw [hb] at hs; cases hs
    |true=>
    rw [hb] at hs; cases hs
    cases ha with
    |wptr r off b o' z hlt hO hz' hc'=>
     refine z0h.pure hr (z7i ht hfs hx (eAf hb) _ _) ?_
     rw [eAy]; exact .wptr _ _ b o' z hlt hO hz' hc'
   ·cases hs
  ·cases hs
 ·split at hs
  ·rename_i fs hfs
   split at hs
   ·rename_i o s g hx
    rw [z1b] at hx
    cases hb:Nat.ble 1 s with
    |false=>rw [hb] at hs; cases hs
    |true=>
    rw [hb] at hs; cases hs
    cases ha with
    |lptr r off b o' hlt hO cell hc hrr=>
     refine z0h.pure hr (z7i ht hfs hx (eAf hb) _ _) ?_
     rw [eAy]; exact .lptr _ _ b o' hlt hO cell hc hrr
   ·cases hs
  ·cases hs
 ·cases hs
theorem x0q (vs:Array Value) (o s:Nat):(vs.extract o (o+s)).toList=(vs.toList.drop o).take s:=by
 simp [Array.toList_extract,List.extract_eq_take_drop]
theorem z0w {α:Type} (l:List α) (o s j:Nat):((l.drop o).take s)[j]?=if j<s then l[o+j]? else none:=by
 rw [List.getElem?_take]; split<;>simp [eBp]
theorem z88 {t:TypeId} {s:Nat} {a:Bool} (hs:z78 P t=some s) (ha:z2y P t=some a) (vs:Array Value) (o:Nat) (cs:List Value) (hcs:cs.length=s)
  (hg:∀ j,j<s→cs[j]?=vs[o+j]?) (v:Value) (hv:if a then v= .agg cs.toArray else cs=[v]):(Go.part t vs o).run P w= .ok v w:=by
 cases a with
 |true=>
  simp at hv; subst hv
  have e:vs.extract o (o+s)=cs.toArray:=by
   apply Array.ext'
   rw [x0q]
   apply eBd
   intro j
   rw [z0w]
   split
   ·rename_i hj; rw [hg j hj]; simp
   ·rename_i hj; symm; simp; omega
  simp only [Go.part,Sem.run_bind,y73 ha,Result.andThen_ok,if_true,z0v hs,Sem.run_pure,e,Sem.run_ite]
 |false=>
  simp at hv; subst hv
  simp at hcs; subst hcs
  have:=hg 0 (by omega)
  simp at this
  simp [Go.part,y73 ha, ←this]
theorem y56 {O:Nat→Prop} {l c:List AV} {o s:Nat} (hp:part l o s=some c) {vs:Array Value} (hl:vs.size=l.length) (hv:∀ (i:Nat) (x:AV),l[i]?=some x→z0i ρ O w x (vs.getD i undef)):
  ∃ cs:List Value,cs.length=c.length∧(∀ j,j<s→cs[j]?=vs[o+j]?)∧∀ (j:Nat) (y:AV) (v:Value),c[j]?=some y→cs[j]?=some v→z0i ρ O w y v:=by
 obtain ⟨p1,p2⟩:=z2g hp
 have hle:∀ j,j<s→o+j<l.length:=by
  intro j hj
  have:=p2 j hj
  rw [eAa (show j<c.length by omega)] at this
  exact (eAd.1 this).1
 refine ⟨(vs.toList.drop o).take s,?_,fun j hj=>by rw [z0w,if_pos hj]; simp,fun j y v hy hv'=>?_⟩
 ·rw [eBv,eCx,eBa,p1]
  rcases Nat.eq_zero_or_pos s with h0|h0
  ·omega
  ·have:=hle (s - 1) (by omega); omega
 ·have hj:j<s:=by rw [←p1]; exact (eAd.1 hy).1
  rw [z0w,if_pos hj] at hv'
  have h1:=hv (o+j) y (by rw [p2 j hj]; exact hy)
  rw [z7n (show vs[o+j]?=some v by simpa using hv')] at h1
  exact h1
theorem y55 {O:Nat→Prop} {l c:List D} {o s:Nat} (hp:part l o s=some c) {vs:Array Value} (hl:vs.size=l.length) (hv:∀ (i:Nat) (x:D),l[i]?=some x→z02 O w x (vs.getD i undef)):
  ∃ cs:List Value,cs.length=c.length∧(∀ j,j<s→cs[j]?=vs[o+j]?)∧∀ (j:Nat) (y:D) (v:Value),c[j]?=some y→cs[j]?=some v→z02 O w y v:=by
 obtain ⟨p1,p2⟩:=z2g hp
 have hle:∀ j,j<s→o+j<l.length:=by
  intro j hj
  have:=p2 j hj
  rw [eAa (show j<c.length by omega)] at this
  exact (eAd.1 this).1
 refine ⟨(vs.toList.drop o).take s,?_,fun j hj=>by rw [z0w,if_pos hj]; simp,fun j y v hy hv'=>?_⟩
 ·rw [eBv,eCx,eBa,p1]
  rcases Nat.eq_zero_or_pos s with h0|h0
  ·omega
  ·have:=hle (s - 1) (by omega); omega
 ·have hj:j<s:=by rw [←p1]; exact (eAd.1 hy).1
  rw [z0w,if_pos hj] at hv'
  have h1:=hv (o+j) y (by rw [p2 j hj]; exact hy)
  rw [z7n (show vs[o+j]?=some v by simpa using hv')] at h1
  exact h1
theorem y3g {T:TypeId} {ti:TI} (ht:z5t P T ti) (hr:z0a P ρ h w) {new f:Nat} {a:AV} {v:Value} (ha:z0i ρ (z0c ρ h) w a v) {res:Res} (hs:z5w ti f a=some res):
  z0h P ρ h w new (Instr.field T v f) res:=by
 obtain ⟨d,hd,hda,hk⟩:=ht.desc
 unfold z5w at hs
 split at hs
 ·split at hs
  ·rename_i fs hfs
   rw [hfs] at hk
   obtain ⟨fields,rfl,hk1,hk2⟩:=hk
   split at hs
   ·rename_i o s g hx
    rw [z1b] at hx
    obtain ⟨fl,hfl,ho,hsz,hag⟩:=hk2 f _ hx
    split at hs
    ·rename_i c hp
     obtain ⟨x,hx',rfl⟩:=z2c hs
     cases ha with
     |d hd'=>cases hd' with
      |agg ds vs hl hv=>
       obtain ⟨cs,c1,c2,c3⟩:=y55 hp hl hv
       obtain ⟨v,hv1,hv2⟩:=z2p (ρ:=ρ) hx' cs c1 c3
       refine z0h.pure hr ?_ hv2
       have:=z88 (P:=P) (w:=w) hsz hag vs o cs (c1.trans (z2g hp).1) c2 v hv1
       simp only at ho
       simp only [Instr.field,Sem.run_bind,z0d hd,Result.andThen_ok,hfl,asAgg,Sem.run_pure,ho,this]
    ·cases hs
   ·cases hs
  ·cases hs
 ·split at hs
  ·rename_i fs hfs
   rw [hfs] at hk
   obtain ⟨fields,rfl,hk1,hk2⟩:=hk
   split at hs
   ·rename_i o s g hx
    rw [z1b] at hx
    obtain ⟨fl,hfl,ho,hsz,hag⟩:=hk2 f _ hx
    split at hs
    ·rename_i c hp
     obtain ⟨x,hx',rfl⟩:=z2c hs
     cases ha with
     |agg ds vs hl hv=>
      obtain ⟨cs,c1,c2,c3⟩:=y56 hp hl hv
      obtain ⟨v,hv1,hv2⟩:=z4i hx' cs c1 c3
      refine z0h.pure hr ?_ hv2
      have:=z88 (P:=P) (w:=w) hsz hag vs o cs (c1.trans (z2g hp).1) c2 v hv1
      simp only at ho
      simp only [Instr.field,Sem.run_bind,z0d hd,Result.andThen_ok,hfl,asAgg,Sem.run_pure,ho,this]
    ·cases hs
   ·cases hs
  ·cases hs
 ·cases hs
end
end Go.Am
end
section
namespace Go.Am
section
variable {P:Program} {ρ:Rho} {h:List AO} {w:World}
theorem z6o {T:TypeId} {e:TypeId} (hd:P.underlying T=some (.slice e)) {esz:Nat} (hs:z78 P e=some esz) (b o len cap:Nat) (k:IntKind) (i:Int) (h0:0≤i) (h1:i<len):
  (Instr.indexAt T (.slice (some ⟨b,o,none⟩) len cap) (.int k i)).run P w= .ok (.pointer (some ⟨b,o+i.toNat*esz,none⟩)) w:=by
 simp only [Instr.indexAt,asIntOf,Sem.run_bind,Sem.run_pure,Result.andThen_ok,z0d hd,Sem.run_ite,h0,h1,and_self,if_true,z0v hs,z39]
theorem z3y {T:TypeId} {e:TypeId} {n:Nat} (hd:P.underlying T=some (.array n e)) {esz:Nat} (hs:z78 P e=some esz) (b o:Nat) (k:IntKind) (i:Int) (h0:0≤i) (h1:i<n):
  (Instr.indexAt T (.pointer (some ⟨b,o,none⟩)) (.int k i)).run P w= .ok (.pointer (some ⟨b,o+i.toNat*esz,none⟩)) w:=by
 simp only [Instr.indexAt,asIntOf,Sem.run_bind,Sem.run_pure,Result.andThen_ok,z0d hd,Instr.sureAddr,Sem.run_ite,h0,h1,and_self,if_true,z0v hs,z39]
theorem z2b {i:Int} (h:std.cmp .geq i 0=true):0≤i:=by simpa [std,z3o] using h
theorem z8t {i j:Int} (h:std.cmp .lss i j=true):i<j:=by simpa [std,z3o] using h
theorem y2e {T : TypeId} {ti : TI} (ht : z5t P T ti) (hr : z0a P ρ h w) {new : Nat} {r : List D} {a ix : AV} {v vi : Value} (ha : z0i ρ (z0c ρ h) w a v) (hi : z0i ρ (z0c ρ h) w ix vi)
    (hrow : ∀ full z es k i, a = .d (.list full z es) → ix = .d (.int k i) → x9x es i.toNat r) {res : Res} (hs : z19 std std ti h r a ix = some res) (hc : res.c = true) :
    z0h P ρ h w new (Instr.indexAt T v vi) res := by
  obtain ⟨d, hd, hda, hk⟩ := ht.desc
  unfold z19 at hs
  split at hs
  ·
    rename_i full z0 es k i
    split at hs
    · rename_i e esz eb ea ez hdesc
      rw [hdesc] at hk
      obtain ⟨rfl, hsz, _, _, _⟩ := hk
      cases hb : Nat.beq z0 esz with
      | false => rw [hb] at hs; cases hs
      | true =>
      rw [hb] at hs; cases hs
      have hzz := eAc hb
      subst hzz
      have h0 := z2b hc
      obtain ⟨r0, hri, hrle⟩ := hrow full z0 es k i rfl rfl
      have hlt := (eAd.1 hri).1
      cases hi with
      | d hi => cases hi with
        | int =>
      cases ha with
      | d ha => cases ha with
        | lnil => simp at hlt
        | list _ _ b o z c hz hne hO hlc hf hsz' cell h1c hcell hh =>
          refine z0h.pure hr (z6o hd hsz b o _ _ k i h0 (by omega)) ?_
          have hlen : r.length = z0 := hrle.1.trans (hsz' _ _ hri)
          have := z0i.lptr (ρ := ρ) (O := z0c ρ h) (w := w) r 0 b (o + i.toNat * z0) (by
              have : 0 < es.length * z0 := Nat.mul_pos (by omega) hz
              exact y0b (hcell 0 this)) hO (fun j => cell (i.toNat * z0 + j)) (fun j hj => by
              rw [eAy]
              refine hcell _ ?_
              have : (i.toNat + 1) * z0 ≤ es.length * z0 := eAo _ hlt
              rw [eAl] at this; omega) (fun j x hx => let ⟨x0, hx0, hxle⟩ := hrle.2 j x hx; (hh _ _ _ _ hri hx0).le hxle)
          simpa using this
    · cases hs
  ·
    rename_i id z off len cap k i
    split at hs
    · rename_i e esz eb ea ez hdesc
      rw [hdesc] at hk
      obtain ⟨rfl, hsz, _, _, _⟩ := hk
      cases hb : Nat.beq z esz with
      | false => rw [hb] at hs; cases hs
      | true =>
      rw [hb] at hs; cases hs
      have hzz := eAc hb
      subst hzz
      simp only [eAb] at hc
      have h0 := z2b hc.1
      have h1 : i < len := z8t hc.2
      cases hi with
      | d hi => cases hi with
        | int =>
      cases ha with
      | nils => omega
      | slice _ _ _ _ _ L a c hL hz haa hcc hle =>
        have hc0 : 0 < c := by omega
        rw [haa hc0]
        refine z0h.pure hr (z6o hd hsz _ _ _ _ k i h0 h1) ?_
        have := z0i.ptr (ρ := ρ) (O := z0c ρ h) (w := w) id (off + i.toNat) 0 L hL
        rw [hz, eAl, eAt, ← eAy] at this
        rw [hz]; exact this
    · cases hs
  ·
    rename_i id off k i
    split at hs
    · rename_i n esz ea hdesc
      rw [hdesc] at hk
      obtain ⟨e, rfl, hsz, _⟩ := hk
      obtain ⟨u, hu, hres⟩ : ∃ u : Nat, u = off + i.toNat * esz ∧ res = ⟨std.cmp .geq i 0 && std.cmp .lss i (std.ofNat n), .bptr id u, []⟩ := by
        split at hs
        · cases hs
          refine ⟨_, ?_, rfl⟩
          show off + _ = _
          congr 1
          cases hb : Nat.beq esz 1 with
          | true => have := eAc hb; subst this; simp [std]
          | false => rfl
        · cases hs; exact ⟨_, rfl, rfl⟩
      subst hres
      simp only [eAb] at hc
      have h0 := z2b hc.1
      have h1 : i < n := z8t hc.2
      cases hi with
      | d hi => cases hi with
        | int =>
      cases ha with
      | bptr _ _ L hL =>
        refine z0h.pure hr (z3y hd hsz _ _ k i h0 h1) ?_
        have := z0i.bptr (ρ := ρ) (O := z0c ρ h) (w := w) id (off + i.toNat * esz) L hL
        rw [← eAy] at this; rw [hu]; exact this
    · cases hs
  ·
    rename_i id j off k i
    split at hs
    · rename_i n esz ea hdesc
      rw [hdesc] at hk
      obtain ⟨e, rfl, hsz, _⟩ := hk
      cases hs
      simp only [eAb] at hc
      have h0 := z2b hc.1
      have h1 : i < n := z8t hc.2
      cases hi with
      | d hi => cases hi with
        | int =>
      cases ha with
      | ptr _ _ _ L hL =>
        refine z0h.pure hr (z3y hd hsz _ _ k i h0 h1) ?_
        have := z0i.ptr (ρ := ρ) (O := z0c ρ h) (w := w) id j (off + i.toNat * esz) L hL
        rw [← eAy] at this; exact this
    · cases hs
  ·
    rename_i c off k i
    split at hs
    · rename_i n esz ea hdesc
      rw [hdesc] at hk
      obtain ⟨e, rfl, hsz, _⟩ := hk
      cases hs
      simp only [eAb] at hc
      have h0 := z2b hc.1
      have h1 : i < n := z8t hc.2
      cases hi with
      | d hi => cases hi with
        | int =>
      cases ha with
      | wptr _ _ b o z hlt hO hz hcc =>
        refine z0h.pure hr (z3y hd hsz _ _ k i h0 h1) ?_
        have hu : std.add off (bif Nat.beq esz 1 then std.nat i else std.mul (std.nat i) esz) = off + i.toNat * esz := by
          show off + _ = _
          congr 1
          cases hb : Nat.beq esz 1 with
          | true => have := eAc hb; subst this; simp [std]
          | false => rfl
        have := z0i.wptr (ρ := ρ) (O := z0c ρ h) (w := w) c (off + i.toNat * esz) b o z hlt hO hz hcc
        rw [← eAy] at this
        show z0i _ _ _ (.wptr c (std.add off _)) _
        rw [hu]; exact this
    · cases hs
  ·
    rename_i c off k i
    split at hs
    · rename_i n esz ea hdesc
      rw [hdesc] at hk
      obtain ⟨e, rfl, hsz, _⟩ := hk
      cases hs
      simp only [eAb] at hc
      have h0 := z2b hc.1
      have h1 : i < n := z8t hc.2
      cases hi with
      | d hi => cases hi with
        | int =>
      cases ha with
      | lptr _ _ b o hlt hO cell hcc hrr =>
        refine z0h.pure hr (z3y hd hsz _ _ k i h0 h1) ?_
        have := z0i.lptr (ρ := ρ) (O := z0c ρ h) (w := w) c (off + i.toNat * esz) b o hlt hO cell hcc hrr
        rw [← eAy] at this; exact this
    · cases hs
  · cases hs
theorem y3f {T:TypeId} {ti:TI} (ht:z5t P T ti) (hr:z0a P ρ h w) {new:Nat} {a ix:AV} {v vi:Value} (ha:z0i ρ (z0c ρ h) w a v) (hi:z0i ρ (z0c ρ h) w ix vi)
  {res:Res} (hs:z5v std std ti a ix=some res) (hc:res.c=true):z0h P ρ h w new (Instr.index T v vi) res:=by
 obtain ⟨d,hd,hda,hk⟩:=ht.desc
 unfold z5v at hs
 split at hs
 ·rename_i l k i
  split at hs
  ·rename_i n esz ea hdesc
   rw [hdesc] at hk
   obtain ⟨e,rfl,hsz,hag⟩:=hk
   split at hs
   ·rename_i c hp
    cases hx:z4m ea c with
    |none=>rw [hx] at hs; cases hs
    |some x=>
    rw [hx] at hs; cases hs
    simp only [eAb] at hc
    have h0:=z2b hc.1
    have h1:i<n:=z8t hc.2
    cases hi with
    |d hi=>cases hi with
     |int=>
    cases ha with
    |d ha=>cases ha with
     |agg ds vs hl hv=>
      obtain ⟨cs,c1,c2,c3⟩:=y55 hp hl hv
      obtain ⟨u,hv1,hv2⟩:=z2p (ρ:=ρ) hx cs c1 c3
      have:=z88 (P:=P) (w:=w) hsz hag vs _ cs (c1.trans (z2g hp).1) c2 u hv1
      refine ⟨u,w,ρ,?_,hv2,hr,Ext.refl _ _ _ _, .inl rfl⟩
      simp only [Instr.index,asIntOf,Sem.run_bind,Sem.run_pure,Result.andThen_ok,z0d hd,Sem.run_ite,h0,h1,and_self,if_true,z0v hsz]
      exact this
   ·cases hs
  ·cases hs
 ·rename_i l k i
  split at hs
  ·rename_i n esz ea hdesc
   rw [hdesc] at hk
   obtain ⟨e,rfl,hsz,hag⟩:=hk
   split at hs
   ·rename_i c hp
    cases hx:z5m ea c with
    |none=>rw [hx] at hs; cases hs
    |some x=>
    rw [hx] at hs; cases hs
    simp only [eAb] at hc
    have h0:=z2b hc.1
    have h1:i<n:=z8t hc.2
    cases hi with
    |d hi=>cases hi with
     |int=>
    cases ha with
    |agg ds vs hl hv=>
      obtain ⟨cs,c1,c2,c3⟩:=y56 hp hl hv
      obtain ⟨u,hv1,hv2⟩:=z4i hx cs c1 c3
      have:=z88 (P:=P) (w:=w) hsz hag vs _ cs (c1.trans (z2g hp).1) c2 u hv1
      refine ⟨u,w,ρ,?_,hv2,hr,Ext.refl _ _ _ _, .inl rfl⟩
      simp only [Instr.index,asIntOf,Sem.run_bind,Sem.run_pure,Result.andThen_ok,z0d hd,Sem.run_ite,h0,h1,and_self,if_true,z0v hsz]
      exact this
   ·cases hs
  ·cases hs
 ·rename_i s k i
  split at hs
  ·rename_i hdesc
   rw [hdesc] at hk
   cases hk
   cases hs
   simp only [eAb] at hc
   have h0:=z2b hc.1
   have h1:i<s.size:=z8t hc.2
   cases hi with
   |d hi=>cases hi with
    |int=>
   cases ha with
   |d ha=>cases ha with
    |str=>
     have hlt:i.toNat<s.size:=by omega
     have hget:s[i.toNat]?=some s[i.toNat]:=by simp [hlt]
     refine z0h.pure hr ?_ (.d (.int _ _))
     simp only [Instr.index,asIntOf,Sem.run_bind,Sem.run_pure,Result.andThen_ok,z0d hd,h0,if_true,hget,std,eBh,eBk]
  ·cases hs
 ·cases hs
theorem z3z (op:BinOp) (T:TypeId) (k:IntKind) (a b:Int) (hne:z9n op= .divs→b≠0) (hsh:z9n op= .shift→0≤b):
  (binOp op T (.int k a) (.int k b)).run P w= .ok (match z9n op with| .comp=> .bool (z3o op a b)|_=> .int k (x1z op k a b)) w:=by
 cases op<;>simp [binOp,z9n,x1z,z3o,Op.intArith,Op.intDiv,Op.intBits,Op.intCmp,Op.shift] at* <;>first
  |simp [hne]
  |(intro hb; omega)
  |skip
theorem y3r (op:BinOp) (T:TypeId) (k k':IntKind) (a b:Int) (hop:z9n op= .shift) (hsh:0≤b):
  (binOp op T (.int k a) (.int k' b)).run P w= .ok (.int k (x1z op k a b)) w:=by
 cases op<;>simp [z9n] at hop<;>simp [binOp,x1z,Op.shift]<;>(intro hb; omega)
end
end Go.Am
end
section
namespace Go.Am
def eq1:SK→Value→Value→Option Bool
 | .i, .int k a, .int k' b=>if k=k' then some (a==b) else none
 | .b, .bool a, .bool b=>some (a==b)
 | .s, .string a, .string b=>some (a.toList==b.toList)
 |_,_,_=>none
def z7a:List SK→List Value→List Value→Option Bool
 |[],[],[]=>some true
 |k::ks,x::xs,y::ys=>match eq1 k x y,z7a ks xs ys with
  |some a,some b=>some (a&&b)
  |_,_=>none
 |_,_,_=>none
theorem w7y {x y:Value} {b:Bool} (h:eq1 .i x y=some b):∃ k a c,x= .int k a∧y= .int k c∧b=(a==c):=by
 unfold eq1 at h
 split at h
 ·rename_i k a k' c _
  by_cases hk:k=k'
  ·rw [if_pos hk] at h; subst hk; cases h; exact ⟨_,_,_,rfl,rfl,rfl⟩
  ·rw [if_neg hk] at h; cases h
 ·rename_i e; cases e
 ·rename_i e; cases e
 ·cases h
theorem w7z {x y:Value} {b:Bool} (h:eq1 .b x y=some b):∃ a c,x= .bool a∧y= .bool c∧b=(a==c):=by
 unfold eq1 at h
 split at h
 ·rename_i e; cases e
 ·cases h; exact ⟨_,_,rfl,rfl,rfl⟩
 ·rename_i e; cases e
 ·cases h
theorem w7x {x y:Value} {b:Bool} (h:eq1 .s x y=some b):∃ a c,x= .string a∧y= .string c∧b=(a.toList==c.toList):=by
 unfold eq1 at h
 split at h
 ·rename_i e; cases e
 ·rename_i e; cases e
 ·cases h; exact ⟨_,_,rfl,rfl,rfl⟩
 ·cases h
theorem x4i {ks:List SK} {xs ys:List Value} {b:Bool} (h:z7a ks xs ys=some b):xs.length=ks.length∧ys.length=ks.length:=by
 induction ks generalizing xs ys b with
 |nil=>cases xs<;>cases ys<;>simp [z7a] at h⊢
 |cons k ks ih=>
  cases xs with
  |nil=>simp [z7a] at h
  |cons x xs=>
   cases ys with
   |nil=>simp [z7a] at h
   |cons y ys=>
    simp only [z7a] at h
    split at h
    ·rename_i h2; have:=ih h2; simp; omega
    ·cases h
theorem y6s {k1 k2:List SK} {xs ys:List Value} {b:Bool} (h:z7a (k1++k2) xs ys=some b):
  ∃ b1 b2,z7a k1 (xs.take k1.length) (ys.take k1.length)=some b1∧z7a k2 (xs.drop k1.length) (ys.drop k1.length)=some b2∧b=(b1&&b2):=by
 induction k1 generalizing xs ys b with
 |nil=>exact ⟨true,b,by simp [z7a],by simpa using h,by simp⟩
 |cons k k1 ih=>
  cases xs with
  |nil=>simp [z7a] at h
  |cons x xs=>
   cases ys with
   |nil=>simp [z7a] at h
   |cons y ys=>
    simp only [List.cons_append,z7a] at h
    split at h
    ·rename_i a c h1 h2
     cases h
     obtain ⟨b1,b2,e1,e2,rfl⟩:=ih h2
     exact ⟨a&&b1,b2,by simp [z7a,h1,e1],by simpa using e2,by cases a<;>simp⟩
    ·cases h
section
variable {P:Program} {w:World}
def Holds (P:Program) (t:TypeId) (v:Value) (cs:List Value):Prop:=
 ∃ a,z2y P t=some a∧z78 P t=some cs.length∧if a then v= .agg cs.toArray else cs=[v]
theorem z6n {t:TypeId} {s:Nat} {a:Bool} (hs:z78 P t=some s) (ha:z2y P t=some a) (xs:List Value) (o:Nat) (hl:o+s≤xs.length) (h1:a=false→s=1):
  ∃ v,(∀ w,(Go.part t xs.toArray o).run P w= .ok v w)∧Holds P t v ((xs.drop o).take s):=by
 have hlen:((xs.drop o).take s).length=s:=by simp; omega
 cases a with
 |true=>
  refine ⟨.agg ((xs.drop o).take s).toArray,fun w=>z88 hs ha xs.toArray o _ hlen (fun j hj=>by rw [z0w,if_pos hj]; simp) _ rfl,true,ha,by rw [hlen]; exact hs,rfl⟩
 |false=>
  have:=h1 rfl; subst this
  have hx:xs[o]?=some xs[o]:=eAa (by omega)
  have e:(xs.drop o).take 1=[xs[o]]:=by
   apply eBd; intro j; rw [z0w]
   cases j<;>simp [hx]
  refine ⟨xs[o],fun w=>z88 hs ha xs.toArray o [xs[o]] rfl ?_ _ rfl,false,ha,by rw [hlen]; exact hs,e⟩
  intro j hj
  have:j=0:=by omega
  subst this; simp
theorem y0x {n:Nat} {t:TypeId} {a:Bool} {ks:List SK} (hf:z3j P n t=some ks) (ha:z2y P t=some a):a=false→ks.length=1:=by
 intro h0; subst h0
 cases n with
 |zero=>simp [z3j] at hf
 |succ n=>
  unfold z2y at ha
  simp only [z3j] at hf
  split at hf
  ·rename_i k0 hk0
   split at hf
   ·cases hf
    unfold x8p at hk0
    cases hu:P.underlying t with
    |none=>simp [hu] at ha
    |some d=>
     rw [hu] at hk0 ha
     cases d<;>simp only [eBh,z6i,Option.some.injEq,Bool.true_eq_false] at hk0 ha<;>first
      |(cases hk0; rfl)
      |cases hk0
      |cases ha
   ·cases hf
  ·cases hf
theorem y0y {n:Nat} {t:TypeId} {ks:List SK} (hf:z3j P n t=some ks):∃ a,z2y P t=some a:=by
 cases n with
 |zero=>simp [z3j] at hf
 |succ n=>
  unfold z2y
  cases hu:P.underlying t with
  |none=>simp [z3j,x8p,hu] at hf
  |some d=>exact ⟨_,rfl⟩
theorem x2x (n d:Nat) (ih:∀ (t:TypeId) (ks:List SK) (x y:Value) (xs ys:List Value) (b:Bool) (w:World),z3j P n t=some ks→Holds P t x xs→Holds P t y ys→z7a ks xs ys=some b→(Op.equalIn d t x y).run P w= .ok b w):
  ∀ (fs:List Field) (off:Nat) (ks:List SK) (xs ys:List Value) (b:Bool),w0t P (z3j P n) off fs=some ks→xs.length=off+ks.length→ys.length=off+ks.length→z7a ks (xs.drop off) (ys.drop off)=some b→
   (Op.eqFields d xs.toArray ys.toArray fs).run P w= .ok b w:=by
 intro fs
 induction fs with
 |nil=>
  intro off ks xs ys b hr hx hy hb
  simp [w0t] at hr; subst hr
  have h1:xs.drop off=[]:=by simp at hx⊢; omega
  have h2:ys.drop off=[]:=by simp at hy⊢; omega
  rw [h1,h2] at hb; simp [z7a] at hb; subst hb
  simp [Op.eqFields]
 |cons f fs ihf=>
  intro off ks xs ys b hr hx hy hb
  simp only [w0t] at hr
  split at hr
  ·rename_i hc
   obtain ⟨hn,ho⟩:=hc
   split at hr
   ·rename_i k1 hk1
    split at hr
    ·rename_i hs
     cases hq:w0t P (z3j P n) (off+k1.length) fs with
     |none=>rw [hq] at hr; cases hr
     |some k2=>
     rw [hq] at hr; simp at hr; subst hr
     obtain ⟨a,ha⟩:=y0y hk1
     have h1:=y0x hk1 ha
     rw [eBu] at hx hy
     obtain ⟨vx,rx,hx1⟩:=z6n (P:=P) hs ha xs off (by omega) h1
     obtain ⟨vy,ry,hy1⟩:=z6n (P:=P) hs ha ys off (by omega) h1
     obtain ⟨b1,b2,e1,e2,rfl⟩:=y6s hb
     rw [eCw,eCw] at e2
     have hq1:=ih f.type k1 vx vy _ _ b1 w hk1 hx1 hy1 e1
     have hrest:=ihf (off+k1.length) k2 xs ys b2 hq (by omega) (by omega) e2
     rw [←ho] at rx ry
     simp only [Op.eqFields,hn,ne_eq,not_false_eq_true,if_true,Sem.run_bind,rx,ry,hq1,Result.andThen_ok,Sem.run_ite,Sem.run_pure,hrest]
     cases b1<;>simp
    ·cases hr
   ·cases hr
  ·cases hr
theorem x2v (d:Nat) (e:TypeId) (s:Nat) (a:Bool) (ks:List SK) (hks:ks.length=s) (hs:z78 P e=some s) (ha:z2y P e=some a) (h1:a=false→s=1)
  (ih:∀ (x y:Value) (xs ys:List Value) (b:Bool) (w:World),Holds P e x xs→Holds P e y ys→z7a ks xs ys=some b→(Op.equalIn d e x y).run P w= .ok b w) (xs ys:List Value):
  ∀ (m i:Nat) (b:Bool),xs.length=(i+m)*s→ys.length=(i+m)*s→z7a (List.replicate m ks).flatten (xs.drop (i*s)) (ys.drop (i*s))=some b→
   ((forIn (List.range' i m) ((none,()):Option Bool×Unit) (fun i r=>(do
    let x←Go.part e xs.toArray (i*s)
    let y←Go.part e ys.toArray (i*s)
    let q←Op.equalIn d e x y
    if (!q)=true then pure (.done (some false,())) else pure (.yield (none,())):Sem (ForInStep (Option Bool×Unit))))):Sem (Option Bool×Unit)).run P w
    = .ok (if b then (none,()) else (some false,())) w:=by
 intro m
 induction m with
 |zero=>
  intro i b hx hy hb
  have h1:xs.drop (i*s)=[]:=by simp at hx⊢; omega
  have h2:ys.drop (i*s)=[]:=by simp at hy⊢; omega
  rw [h1,h2] at hb
  simp [z7a] at hb; subst hb
  simp
 |succ m ihm=>
  intro i b hx hy hb
  simp only [List.replicate_succ,List.flatten_cons] at hb
  have hmul:(i+(m+1))*s=i*s+s+m*s:=by rw [eAl,eAl]; omega
  obtain ⟨b1,b2,e1,e2,rfl⟩:=y6s hb
  rw [hks] at e1 e2
  rw [eCw,eCw] at e2
  obtain ⟨vx,rx,hx1⟩:=z6n (P:=P) hs ha xs (i*s) (by omega) h1
  obtain ⟨vy,ry,hy1⟩:=z6n (P:=P) hs ha ys (i*s) (by omega) h1
  have hq:=ih vx vy _ _ b1 w hx1 hy1 e1
  have hrest:=ihm (i+1) b2 (by rw [hx]; congr 1; omega) (by rw [hy]; congr 1; omega) (by rw [eAl,Nat.one_mul]; exact e2)
  rw [List.range'_succ,List.forIn_cons]
  simp only [Sem.run_bind,rx,ry,hq,Result.andThen_ok,Sem.run_ite,Sem.run_pure]
  cases b1
  ·simp
  ·simp only [Bool.not_true,eAi,if_false,Result.andThen_ok,Bool.true_and]
   exact hrest
theorem z5e:∀ (n:Nat) (t:TypeId) (ks:List SK),z3j P n t=some ks→z78 P t=some ks.length:=by
 intro n
 cases n with
 |zero=>intro t ks h; simp [z3j] at h
 |succ n=>
  intro t ks h
  simp only [z3j] at h
  split at h
  ·split at h<;>simp_all
  ·cases h
theorem y6q:∀ (n d:Nat),n≤d→∀ (t:TypeId) (ks:List SK) (x y:Value) (xs ys:List Value) (b:Bool) (w:World),z3j P n t=some ks→Holds P t x xs→Holds P t y ys→z7a ks xs ys=some b→
  (Op.equalIn d t x y).run P w= .ok b w:=by
 intro n
 induction n with
 |zero=>intro d _ t ks x y xs ys b w hf; simp [z3j] at hf
 |succ n ih=>
  intro d hd t ks x y xs ys b w hf hx hy hb
  obtain ⟨d,rfl⟩:∃ e,d=e+1:=⟨d - 1,by omega⟩
  have hsz:=z5e _ _ _ hf
  obtain ⟨a,ha,hs,hxa⟩:=hx
  obtain ⟨a',ha',hs',hya⟩:=hy
  rw [ha] at ha'; cases ha'
  have scalar:a=false→∀ k,ks=[k]→eq1 k x y=some b:=by
   intro h0 k hk; subst h0; subst hk; simp at hxa hya; subst hxa; subst hya
   simp only [z7a] at hb
   split at hb
   ·rename_i c e h1 h2; cases hb; cases h2; simpa using h1
   ·cases hb
  unfold z2y at ha
  simp only [z3j] at hf
  split at hf
  rotate_left
  ·cases hf
  rename_i k0 hk0
  split at hf
  rotate_left
  ·cases hf
  cases hf
  unfold x8p at hk0
  cases hu:P.underlying t with
  |none=>simp [hu] at ha
  |some ds=>
   simp [hu] at ha; subst ha
   rw [hu] at hk0
   cases ds<;>simp only at hk0<;>try (cases hk0; done)
   ·cases hk0
    obtain ⟨a,c,rfl,rfl,rfl⟩:=w7z (scalar rfl _ rfl)
    simp [Op.equalIn,z0d hu,beq_toListBytes]
   ·cases hk0
    obtain ⟨k,a,c,rfl,rfl,rfl⟩:=w7y (scalar rfl _ rfl)
    simp [Op.equalIn,z0d hu]
   ·cases hk0
    obtain ⟨a,c,rfl,rfl,rfl⟩:=w7x (scalar rfl _ rfl)
    simp [Op.equalIn,z0d hu,beq_toListBytes]
   ·rename_i m e
    simp [z6i] at hxa hya; subst hxa; subst hya
    cases hq:z3j P n e with
    |none=>rw [hq] at hk0; cases hk0
    |some ke=>
    rw [hq] at hk0; simp at hk0; subst hk0
    have hse:=z5e _ _ _ hq
    obtain ⟨ae,hae⟩:=y0y hq
    have hlen:=x4i hb
    have hrep:(List.replicate m ke).flatten.length=m*ke.length:=by simp
    have:=x2v (P:=P) (w:=w) d e ke.length ae ke rfl hse hae (y0x hq hae) (fun x y xs ys b w hx hy hb=>ih d (by omega) e ke x y xs ys b w hq hx hy hb) xs ys m 0 b
     (by rw [hlen.1,hrep]; simp) (by rw [hlen.2,hrep]; simp) (by simpa using hb)
    simp only [Op.equalIn,Sem.run_bind,z0d hu,Result.andThen_ok,z0v hse]
    rw [Std.Legacy.Range.forIn_eq_forIn_range']
    have hsize:([:m]:Std.Legacy.Range).size=m:=by simp [Std.Legacy.Range.size]
    rw [hsize]
    erw [this]
    cases b<;>simp
   ·rename_i fs
    simp [z6i] at hxa hya; subst hxa; subst hya
    split at hk0
    ·cases hk0
    ·rename_i hst
     have hpf:P.fieldsOf t=fs:=by simp [Program.fieldsOf,hu]
     rw [run_equalIn_struct w d t _ _ (by rw [hpf]; exact hu) (by simpa using hst),hpf]
     have hlen:=x4i hb
     exact x2x (P:=P) (w:=w) n d (fun t ks x y xs ys b w hf hx hy hb=>ih d (by omega) t ks x y xs ys b w hf hx hy hb) fs.toList 0 _ xs ys b hk0 (by simpa using hlen.1) (by simpa using hlen.2) (by simpa using hb)
end
end Go.Am
end
section
namespace Go.Am
section
variable {P:Program} {ρ:Rho} {h:List AO} {w:World}
theorem y4g {T:TypeId} {O:Nat→Prop} {x:D} {v:Value} (hx:z02 O w x v) {n:Nat} (hn:(z0q x).length=n) (hsz:z78 P T=some n) (ha:z2y P T=some (z1h x)):
  ∃ cs:List Value,Holds P T v cs∧cs.length=n∧∀ (j:Nat) (y:D) (u:Value),(z0q x)[j]?=some y→cs[j]?=some u→z02 O w y u:=by
 have hx0:=hx
 by_cases hag:z1h x=true
 ·cases hx with
  |agg ds vs hl hh=>
   simp [z0q] at hn
   refine ⟨vs.toList,⟨true,ha,by rw [hsz]; simp [hl,hn],by simp⟩,by simp [hl,hn],fun j y u hy hu=>?_⟩
   have:=hh j y hy
   rw [z7n (show vs[j]?=some u by simpa using hu)] at this
   exact this
  |_=>cases hag
 ·have hc:z0q x=[x]:=by cases x<;>first|rfl|exact absurd rfl hag
  have hf:z1h x=false:=by simpa using hag
  rw [hc] at hn⊢
  simp at hn; subst hn
  refine ⟨[v],⟨false,by rw [ha,hf],by simpa using hsz,by simp⟩,rfl,fun j y u hy hu=>?_⟩
  cases j with
  |zero=>simp at hy hu; subst hy; subst hu; exact hx0
  |succ j=>simp at hu
theorem y6t {O:Nat→Prop}:∀ (ks:List SK) (xs ys:List D) (xv yv:List Value) (b:Bool),z05 std ks xs ys=some b→xv.length=xs.length→yv.length=ys.length→
  (∀ (j:Nat) (y:D) (u:Value),xs[j]?=some y→xv[j]?=some u→z02 O w y u)→(∀ (j:Nat) (y:D) (u:Value),ys[j]?=some y→yv[j]?=some u→z02 O w y u)→z7a ks xv yv=some b:=by
 intro ks
 induction ks with
 |nil=>
  intro xs ys xv yv b h hx hy _ _
  cases xs<;>cases ys<;>simp [z05] at h
  cases xv<;>cases yv<;>simp at hx hy
  simp [z7a,h]
 |cons k ks ih=>
  intro xs ys xv yv b h hx hy rx ry
  cases xs with
  |nil=>cases k<;>simp [z05] at h
  |cons x xs=>
  cases ys with
  |nil=>cases k<;>cases x<;>simp [z05] at h
  |cons y ys=>
  cases xv with
  |nil=>simp at hx
  |cons u xv=>
  cases yv with
  |nil=>simp at hy
  |cons v yv=>
  have r1:=rx 0 x u (by simp) (by simp)
  have r2:=ry 0 y v (by simp) (by simp)
  have tail:∀ r,z05 std ks xs ys=some r→z7a ks xv yv=some r:=fun r hr=>ih xs ys xv yv r hr (by simpa using hx) (by simpa using hy) (fun j a b ha hb=>rx (j+1) a b (by simpa using ha) (by simpa using hb))
   (fun j a b ha hb=>ry (j+1) a b (by simpa using ha) (by simpa using hb))
  unfold z05 at h
  split at h
  ·rename_i e _ _; cases e
  ·rename_i k1 a _ k2 c _ e1 e2 e3
   cases e1; cases e2; cases e3
   cases r1; cases r2
   cases hkk:(k1==k2) with
   |false=>rw [hkk] at h; cases h
   |true=>
   rw [hkk] at h; simp only [cond_true] at h
   split at h
   ·rename_i r hr; cases h
    have hk:k1=k2:=by simpa using hkk
    subst hk
    simp [z7a,eq1,tail r hr,std,z3o]
   ·cases h
  ·rename_i a _ c _ e1 e2 e3
   cases e1; cases e2; cases e3
   cases r1; cases r2
   split at h
   ·rename_i r hr; cases h; simp [z7a,eq1,tail r hr,std]
   ·cases h
  ·rename_i a _ c _ e1 e2 e3
   cases e1; cases e2; cases e3
   cases r1; cases r2
   split at h
   ·rename_i r hr; cases h; simp [z7a,eq1,tail r hr,std]
   ·cases h
  ·cases h
def x2w:Value→Value→Prop
 | .agg _,_=>False
 | .nilIface,_=>False
 |_,_=>True
theorem y3q {op:BinOp} {T:TypeId} (x y:Operand) {a b:Value} (hg:(∀ xs ys,a= .agg xs→b= .agg ys→P.eqGuardType P.depth T=false)) (hn:a= .nilIface→b= .nilIface→False):
  (eqGuard op T x y a b).run P w= .ok () w:=by
 unfold eqGuard
 cases op<;>try (simp; done)
 all_goals
  cases a<;>cases b<;>first
   |(simp; done)
   |(exact (hn rfl rfl).elim)
   |(rename_i xs ys; simp [hg xs ys rfl rfl])
theorem y4n:∀ (ks:List SK) (xs ys:List D) (b:Bool),z05 std ks xs ys=some b→xs.length=ks.length∧ys.length=ks.length:=by
 intro ks
 induction ks with
 |nil=>intro xs ys b h; cases xs<;>cases ys<;>simp [z05] at h⊢
 |cons k ks ih=>
  intro xs ys b h
  cases xs with
  |nil=>cases k<;>simp [z05] at h
  |cons x xs=>
  cases ys with
  |nil=>cases k<;>cases x<;>simp [z05] at h
  |cons y ys=>
  have tail:∀ r,z05 std ks xs ys=some r→(x::xs).length=(k::ks).length∧(y::ys).length=(k::ks).length:=by
   intro r hr; have:=ih _ _ _ hr; simp; omega
  unfold z05 at h
  split at h
  ·rename_i e _ _; cases e
  ·rename_i k1 _ _ k2 _ _ e1 e2 e3
   cases e1; cases e2; cases e3
   cases hkk:(k1==k2) with
   |false=>rw [hkk] at h; cases h
   |true=>
   rw [hkk] at h; simp only [cond_true] at h
   split at h
   ·rename_i hr; exact tail _ hr
   ·cases h
  ·rename_i e1 e2 e3
   cases e1; cases e2; cases e3
   split at h
   ·rename_i hr; exact tail _ hr
   ·cases h
  ·rename_i e1 e2 e3
   cases e1; cases e2; cases e3
   split at h
   ·rename_i hr; exact tail _ hr
   ·cases h
  ·cases h
theorem y1r:∃ n,∀ T x y,Op.equal T x y=Op.equalIn (n+1) T x y:=⟨9999,fun _ _ _=>rfl⟩
theorem w7v {T:TypeId} {ti:TI} (ht:z5t P T ti) {x y:AV} {vx vy:Value} (hx:z0i ρ (z0c ρ h) w x vx) (hy:z0i ρ (z0c ρ h) w y vy) {b:Bool} (hb:eqA std ti x y=some b):
  (Op.equal T vx vy).run P w= .ok b w∧(∀ xs ys,vx= .agg xs→vy= .agg ys→P.eqGuardType P.depth T=false)∧(vx= .nilIface→vy= .nilIface→False):=by
 obtain ⟨d,hd,hda,hk⟩:=ht.desc
 unfold eqA at hb
 split at hb
 ·rename_i ks a c hks
  obtain ⟨hf,hg⟩:=ht.eqk ks hks
  cases hc:((z1h a==ti.agg)&&(z1h c==ti.agg)) with
  |false=>rw [hc] at hb; cases hb
  |true=>
  rw [hc] at hb; simp only [cond_true] at hb
  simp only [eAb,beq_iff_eq] at hc
  obtain ⟨l1,l2⟩:=y4n ks _ _ _ hb
  cases hx with
  |d hx=>cases hy with
   |d hy=>
    have hsz:=z5e _ _ _ hf
    obtain ⟨xs,h1,h2,h3⟩:=y4g (P:=P) (T:=T) hx l1 hsz (by rw [hc.1]; exact ht.agg)
    obtain ⟨ys,g1,g2,g3⟩:=y4g (P:=P) (T:=T) hy l2 hsz (by rw [hc.2]; exact ht.agg)
    refine ⟨y6q 8 Op.maxDepth (by decide) T ks vx vy xs ys b w hf h1 g1 (y6t ks _ _ xs ys b hb (h2.trans l1.symm) (g2.trans l2.symm) h3 g3),fun _ _ _ _=>hg,?_⟩
    intro e1 e2; subst e1; cases hx
    unfold z05 at hb
    split at hb<;>simp_all [z0q]
 ·obtain ⟨m,hm⟩:=y1r
  rw [hm]
  unfold x0t at hb
  split at hb<;>(try (cases hb; done))<;>(split at hb<;>(try (cases hb; done)))<;>cases hb
  all_goals rename_i hdesc; rw [hdesc] at hk
  ·obtain ⟨_,_,_,rfl⟩:=hk
   cases hx with|d hx=>cases hy with|d hy=>
   cases hx; cases hy
   exact ⟨by simp [Op.equalIn,z0d hd],by simp,by simp⟩
  ·obtain ⟨_,_,_,rfl⟩:=hk
   cases hx with|d hx=>
   cases hx; cases hy
   exact ⟨by simp [Op.equalIn,z0d hd],by simp,by simp⟩
  ·obtain ⟨_,_,_,rfl⟩:=hk
   cases hy with|d hy=>
   cases hy; cases hx
   exact ⟨by simp [Op.equalIn,z0d hd],by simp,by simp⟩
  ·rename_i q
   have:∃ e,d= .pointer e:=by
    cases q with
    |none=>exact hk
    |some q=>obtain ⟨e,_,rfl,_⟩:=hk; exact ⟨e,rfl⟩
   obtain ⟨e,rfl⟩:=this
   cases hx with|d hx=>cases hy with|d hy=>
   cases hx; cases hy
   exact ⟨by simp [Op.equalIn,z0d hd],by simp,by simp⟩
  ·rename_i q
   have:∃ e,d= .pointer e:=by
    cases q with
    |none=>exact hk
    |some q=>obtain ⟨e,_,rfl,_⟩:=hk; exact ⟨e,rfl⟩
   obtain ⟨e,rfl⟩:=this
   cases hx with|d hx=>
   cases hx; cases hy
   exact ⟨by simp [Op.equalIn,z0d hd],by simp,by simp⟩
  ·rename_i q
   have:∃ e,d= .pointer e:=by
    cases q with
    |none=>exact hk
    |some q=>obtain ⟨e,_,rfl,_⟩:=hk; exact ⟨e,rfl⟩
   obtain ⟨e,rfl⟩:=this
   cases hy with|d hy=>
   cases hy; cases hx
   exact ⟨by simp [Op.equalIn,z0d hd],by simp,by simp⟩
  ·obtain ⟨_,rfl⟩:=hk
   cases hy with|d hy=>
   cases hy; cases hx
   exact ⟨by simp [Op.equalIn,z0d hd],by simp,by simp⟩
  ·obtain ⟨_,rfl⟩:=hk
   cases hx with|d hx=>
   cases hx; cases hy
   exact ⟨by simp [Op.equalIn,z0d hd],by simp,by simp⟩
def Odd (x y:Value):Prop:=
 match x,y with
 | .int _ _, .int _ _| .float _ _, .float _ _| .complex _ _ _, .complex _ _ _| .string _, .string _=>False
 |_,_=>True
theorem z8w {T:TypeId} {x y:Value} (h:Odd x y):binOp .eql T x y=(do pure (.bool (←Op.equal T x y))):=by
 unfold binOp
 split<;>simp_all [Odd]
theorem z8v {T:TypeId} {x y:Value} (h:Odd x y):binOp .neq T x y=(do pure (.bool (!(←Op.equal T x y)))):=by
 unfold binOp
 split<;>simp_all [Odd]
theorem x8z {ti:TI} {x y:AV} (h:x= .bot∨y= .bot):eqA std ti x y=none:=by
 rcases h with rfl|rfl
 ·cases ti with|mk a b c d e f=>cases f<;>simp [eqA,x0t]
 ·cases ti with|mk a b c d e f=>cases f<;>cases x<;>simp [eqA,x0t]<;>(rename_i z; cases z<;>simp [x0t])
theorem y8n {ti:TI} {x y:AV} (h:(∃ es,x= .perm es)∨∃ es,y= .perm es):eqA std ti x y=none:=by
 rcases h with ⟨es,rfl⟩|⟨es,rfl⟩
 ·cases ti with|mk a b c d e f=>cases f<;>simp [eqA,x0t]
 ·cases ti with|mk a b c d e f=>cases f<;>cases x<;>simp [eqA,x0t]<;>(rename_i z; cases z<;>simp [x0t])
theorem y72 (op:BinOp) (T:TypeId) (k:IntKind) (a b:Int) (hop:z9n op= .comp):(binOp op T (.int k a) (.int k b)).run P w= .ok (.bool (z3o op a b)) w:=by
 have:=z3z (P:=P) (w:=w) op T k a b (by rw [hop]; simp) (by rw [hop]; simp)
 rw [hop] at this; exact this
theorem z4s {op:BinOp} {T:TypeId} (x y:Operand) {a b:Value} (h:x2w a b):(eqGuard op T x y a b).run P w= .ok () w:=
 y3q x y (fun xs ys e1 e2=>by subst e1; exact h.elim) (fun e1 e2=>by subst e1; exact h.elim)
theorem w4i {y:Operand} (h:w67 y=true):y= .const .nilIface:=by
 unfold w67 at h
 split at h
 ·rfl
 ·cases h
theorem x1o {T:TypeId} {ti:TI} (ht:z5t P T ti) (hr:z0a P ρ h w) {new:Nat} {op:BinOp} (ox:Operand) {x:AV} {vx:Value} (hx:z0i ρ (z0c ρ h) w x vx)
  {res:Res} (hs:y2p ti op x=some res):z0h P ρ h w new (do eqGuard op T ox (.const .nilIface) vx .nilIface; binOp op T vx .nilIface) res:=by
 obtain ⟨d,hd,_,hk⟩:=ht.desc
 obtain ⟨m,hm⟩:=y1r
 unfold y2p at hs
 split at hs
 ·rename_i hdesc
  rw [hdesc] at hk
  obtain ⟨_,rfl⟩:=hk
  cases hs
  cases hx with|d hx=>
  cases hx
  refine z0h.pure hr ?_ (.d (.bool _))
  rw [z8w (show Odd .nilIface .nilIface from trivial),hm]
  simp [eqGuard,Op.equalIn,z0d hd]
 ·rename_i hdesc
  rw [hdesc] at hk
  obtain ⟨_,rfl⟩:=hk
  cases hs
  cases hx with|d hx=>
  cases hx
  refine z0h.pure hr ?_ (.d (.bool _))
  rw [z8v (show Odd .nilIface .nilIface from trivial),hm]
  simp [eqGuard,Op.equalIn,z0d hd]
 ·rename_i hdesc
  rw [hdesc] at hk
  obtain ⟨_,rfl⟩:=hk
  cases hs
  cases hx
  refine z0h.pure hr ?_ (.d (.bool _))
  rw [z8w (show Odd (.iface _ _) .nilIface from trivial),hm]
  simp [eqGuard,Op.equalIn,z0d hd]
 ·rename_i hdesc
  rw [hdesc] at hk
  obtain ⟨_,rfl⟩:=hk
  cases hs
  cases hx
  refine z0h.pure hr ?_ (.d (.bool _))
  rw [z8v (show Odd (.iface _ _) .nilIface from trivial),hm]
  simp [eqGuard,Op.equalIn,z0d hd]
 ·cases hs
theorem w4j {y:Operand} (h:w68 y=true):y= .const (.slice none 0 0):=by
 unfold w68 at h
 split at h
 ·rfl
 ·cases h
theorem y7l {T:TypeId} {ti:TI} (ht:z5t P T ti) (hr:z0a P ρ h w) {new:Nat} {op:BinOp} (ox oy:Operand) {x:AV} {vx:Value} (hx:z0i ρ (z0c ρ h) w x vx)
  {res:Res} (hs:z83 std ti op x=some res) (hc:res.c=true):z0h P ρ h w new (do eqGuard op T ox oy vx (.slice none 0 0); binOp op T vx (.slice none 0 0)) res:=by
 obtain ⟨d,hd,_,hk⟩:=ht.desc
 obtain ⟨m,hm⟩:=y1r
 have list:∀ full z es,z0i ρ (z0c ρ h) w (.d (.list full z es)) vx→std.leN 1 (std.len es)=true→∃ a n c,vx= .slice (some a) n c:=by
  intro full z es hx hl
  have:=eAf hl
  cases hx with|d hx=>
  cases hx with
  |lnil=>simp [std] at this
  |list _ _ b o _ c=>exact ⟨_,_,_,rfl⟩
 have slice:∀ id z off len cap,z0i ρ (z0c ρ h) w (.slice id z off len cap) vx→std.leN 1 len=true→∃ a n c,vx= .slice (some a) n c:=by
  intro id z off len cap hx hl
  have:=eAf hl
  cases hx with
  |nils=>omega
  |slice _ _ _ _ _ L a c _ _ ha _ hle=>rw [ha (by omega)]; exact ⟨_,_,_,rfl⟩
 unfold z83 at hs
 split at hs<;>(try (cases hs; done))<;>cases hs<;>rename_i hdesc<;>rw [hdesc] at hk<;>obtain ⟨rfl,_⟩:=hk
 ·obtain ⟨a,n,c,rfl⟩:=list _ _ _ hx hc
  exact z0h.pure hr (by rw [z8w (by trivial),hm]; simp [eqGuard,Op.equalIn,z0d hd]) (.d (.bool _))
 ·obtain ⟨a,n,c,rfl⟩:=list _ _ _ hx hc
  exact z0h.pure hr (by rw [z8v (by trivial),hm]; simp [eqGuard,Op.equalIn,z0d hd]) (.d (.bool _))
 ·obtain ⟨a,n,c,rfl⟩:=slice _ _ _ _ _ hx hc
  exact z0h.pure hr (by rw [z8w (by trivial),hm]; simp [eqGuard,Op.equalIn,z0d hd]) (.d (.bool _))
 ·obtain ⟨a,n,c,rfl⟩:=slice _ _ _ _ _ hx hc
  exact z0h.pure hr (by rw [z8v (by trivial),hm]; simp [eqGuard,Op.equalIn,z0d hd]) (.d (.bool _))
theorem x5f {T:TypeId} {ti:TI} (ht:z5t P T ti) (hr:z0a P ρ h w) {new:Nat} {op:BinOp} (ox oy:Operand) {x y:AV} {vx vy:Value} (hx:z0i ρ (z0c ρ h) w x vx) (hy:z0i ρ (z0c ρ h) w y vy)
  {res:Res} (hs:y7o std ti op x y=some res) (hc:res.c=true):z0h P ρ h w new (do eqGuard op T ox oy vx vy; binOp op T vx vy) res:=by
 unfold y7o at hs
 split at hs
 ·rename_i k a k' b
  cases hx with|d hx=>cases hy with|d hy=>
  cases hx; cases hy
  have hg:(eqGuard op T ox oy (.int k a) (.int k' b)).run P w= .ok () w:=z4s ox oy trivial
  split at hs
  ·rename_i hop
   cases hkk:(k==k') with
   |false=>rw [hkk] at hs; cases hs
   |true=>
   rw [hkk] at hs; simp at hkk; subst hkk; cases hs
   have:=z3z (P:=P) (w:=w) op T k a b (by rw [hop]; simp) (by rw [hop]; simp)
   rw [hop] at this
   exact z0h.pure hr (by simp only [Sem.run_bind,hg,Result.andThen_ok]; exact this) (.d (.int _ _))
  ·rename_i hop
   cases hkk:(k==k') with
   |false=>rw [hkk] at hs; cases hs
   |true=>
   rw [hkk] at hs; simp at hkk; subst hkk; cases hs
   have:=z3z (P:=P) (w:=w) op T k a b (by rw [hop]; simp) (by rw [hop]; simp)
   rw [hop] at this
   exact z0h.pure hr (by simp only [Sem.run_bind,hg,Result.andThen_ok]; exact this) (.d (.int _ _))
  ·rename_i hop
   cases hkk:(k==k') with
   |false=>rw [hkk] at hs; cases hs
   |true=>
   rw [hkk] at hs; simp at hkk; subst hkk; cases hs
   have hb0:b≠0:=by simpa [std,z3o] using hc
   have:=z3z (P:=P) (w:=w) op T k a b (fun _=>hb0) (by rw [hop]; simp)
   rw [hop] at this
   exact z0h.pure hr (by simp only [Sem.run_bind,hg,Result.andThen_ok]; exact this) (.d (.int _ _))
  ·rename_i hop
   cases hs
   have:=y3r (P:=P) (w:=w) op T k k' a b hop (z2b hc)
   exact z0h.pure hr (by simp only [Sem.run_bind,hg,Result.andThen_ok]; exact this) (.d (.int _ _))
  ·rename_i hop
   cases hkk:(k==k') with
   |false=>rw [hkk] at hs; cases hs
   |true=>
   rw [hkk] at hs; simp at hkk; subst hkk; cases hs
   exact z0h.pure hr (by simp only [Sem.run_bind,hg,Result.andThen_ok]; exact y72 op T k a b hop) (.d (.bool _))
 ·rename_i a b
  cases hx with|d hx=>cases hy with|d hy=>
  cases hx; cases hy
  split at hs
  ·cases hs
   exact z0h.pure hr (by simp [z4s (P:=P) (w:=w) (op:= .eql) (T:=T) ox oy (a:= .string a) (b:= .string b) trivial,binOp,Op.stringOp,std]) (.d (.bool _))
  ·cases hs
   exact z0h.pure hr (by simp [z4s (P:=P) (w:=w) (op:= .neq) (T:=T) ox oy (a:= .string a) (b:= .string b) trivial,binOp,Op.stringOp,std]) (.d (.bool _))
  ·cases hs
   have hb:a.size+b.size≤1000000:=eAf hc
   have hle:¬ ((a.size+b.size:Nat):Int)>IntKind.i64.max:=by
    have:IntKind.i64.max=9223372036854775807:=by decide
    rw [this]; omega
   refine z0h.pure hr ?_ (.d (.str _))
   simp only [z4s (P:=P) (w:=w) (op:= .add) (T:=T) ox oy (a:= .string a) (b:= .string b) trivial,Sem.run_bind,Result.andThen_ok,binOp,Op.stringOp]
   rw [if_neg hle]
   rfl
  ·cases hs
 ·rename_i hni hns
  have scal:∀ b,eqA std ti x y=some b→∀ op,op= .eql∨op= .neq→(binOp op T vx vy).run P w= .ok (.bool (if op= .eql then b else !b)) w∧(eqGuard op T ox oy vx vy).run P w= .ok () w:=by
   intro b hb op hop
   obtain ⟨h1,h2,h3⟩:=w7v ht hx hy hb
   refine ⟨?_,y3q ox oy h2 h3⟩
   have hodd:Odd vx vy:=by
    cases hx with
    |bot=>rw [x8z (.inl rfl)] at hb; cases hb
    |perm=>rw [y8n (.inl ⟨_,rfl⟩)] at hb; cases hb
    |d hx=>
     cases hy with
     |bot=>rw [x8z (.inr rfl)] at hb; cases hb
     |perm=>rw [y8n (.inr ⟨_,rfl⟩)] at hb; cases hb
     |d hy=>
      cases hx<;>first
       |(cases hy<;>first|trivial|exact (hni _ _ _ _ rfl rfl).elim|exact (hns _ _ rfl rfl).elim)
     |_=>cases hx<;>trivial
    |_=>
     cases hy with
     |perm=>rw [y8n (.inr ⟨_,rfl⟩)] at hb; cases hb
     |_=>trivial
   rcases hop with rfl|rfl
   ·rw [z8w hodd]; simp [h1]
   ·rw [z8v hodd]; simp [h1]
  split at hs
  ·cases hq:eqA std ti x y with
   |none=>rw [hq] at hs; cases hs
   |some b=>
   rw [hq] at hs; cases hs
   obtain ⟨h1,h2⟩:=scal b hq .eql (.inl rfl)
   exact z0h.pure hr (by simp only [Sem.run_bind,h2,Result.andThen_ok]; exact h1) (.d (.bool _))
  ·cases hq:eqA std ti x y with
   |none=>rw [hq] at hs; cases hs
   |some b=>
   rw [hq] at hs; cases hs
   obtain ⟨h1,h2⟩:=scal b hq .neq (.inr rfl)
   exact z0h.pure hr (by simp only [Sem.run_bind,h2,Result.andThen_ok]; exact h1) (.d (.bool _))
  ·cases hs
end
end Go.Am
end
section
namespace Go.Am
def Els.toA:Els→List (List AV)
 | .d es=>z4c es
 | .a es=>es
def AO.rows:AO→Option (List (List AV))
 | .row es=>some (z4c es)
 | .arow es=>some es
 |_=>none
theorem z3g (es:List (List D)):z4c es=es.map toA:=by
 induction es with
 |nil=>rfl
 |cons r l ih=>simp [z4c,ih]
theorem z18 (es:List (List D)) (i:Nat):(z4c es)[i]?=(es[i]?).map toA:=by rw [z3g]; simp
theorem z0k (es:List (List D)):(z4c es).length=es.length:=by rw [z3g]; simp
section
variable {P:Program} {ρ:Rho} {h:List AO} {w:World}
def z15 (ρ:Rho) (O:Nat→Prop) (w:World) (z:Nat) (es:List (List AV)) (cs:List Value):Prop:=
 cs.length=es.length*z∧(∀ (i:Nat) (r:List AV),es[i]?=some r→r.length=z)∧
  ∀ (i:Nat) (r:List AV) (j:Nat) (y:AV),es[i]?=some r→r[j]?=some y→∃ v,cs[i*z+j]?=some v∧v.oneCell'=true∧z0i ρ O w y v
theorem z15.keep {ρ':Rho} {O O':Nat→Prop} {w':World} {z:Nat} {es:List (List AV)} {cs:List Value} (k:z3s O O' w w') (hρ:∀ id L,ρ id=some L→ρ' id=some L) (h:z15 ρ O w z es cs):
  z15 ρ' O' w' z es cs:=
 ⟨h.1,h.2.1,fun i r j y hi hj=>let ⟨v,hv,h1,hr⟩:=h.2.2 i r j y hi hj; ⟨v,hv,h1,hr.keep k hρ⟩⟩
theorem z15.nil (O:Nat→Prop) (z:Nat):z15 ρ O w z [] []:=⟨by simp,by simp,by simp⟩
theorem x0f {z k n:Nat} (hz:0<z) (h:k<n*z):k / z<n∧k % z<z∧k=k / z*z+k % z:=by
 refine ⟨(eCk hz).2 h,eCr _ hz,?_⟩
 rw [eCb]; exact (Nat.div_add_mod k z).symm
theorem z15.append {O:Nat→Prop} {z:Nat} {a b:List (List AV)} {x y:List Value} (ha:z15 ρ O w z a x) (hb:z15 ρ O w z b y):z15 ρ O w z (a++b) (x++y):=by
 obtain ⟨a1,a2,a3⟩:=ha
 obtain ⟨b1,b2,b3⟩:=hb
 refine ⟨by simp [a1,b1,eAl],fun i r hi=>?_,fun i r j v hi hj=>?_⟩
 ·rw [eAs] at hi
  split at hi
  ·exact a2 i r hi
  ·exact b2 _ r hi
 ·rw [eAs] at hi
  split at hi
  ·rename_i hlt
   obtain ⟨u,hu,h1,hr⟩:=a3 i r j v hi hj
   refine ⟨u,?_,h1,hr⟩
   rw [eBz]
   ·exact hu
   ·exact (eAd.1 hu).1
  ·rename_i hge
   obtain ⟨u,hu,h1,hr⟩:=b3 _ r j v hi hj
   refine ⟨u,?_,h1,hr⟩
   have e:i*z=a.length*z+(i - a.length)*z:=by rw [←eAl]; congr 1; omega
   rw [eCv (by rw [a1]; omega),a1,show i*z+j - a.length*z=(i - a.length)*z+j by omega]
   exact hu
theorem z0u.rows {O:Nat→Prop} {L:Loc} {o:AO} {es:List (List AV)} (ho:o.rows=some es) (h:z0u P ρ O w L o):
  0<L.esz∧∃ (c:Array Value) (t:TypeId),w.heap[L.blk]?=some (.cells c t (0,0))∧(∀ (i:Nat) (r:List AV),es[i]?=some r→r.length=L.esz)∧
   ∀ (i:Nat) (r:List AV) (j:Nat) (y:AV),es[i]?=some r→r[j]?=some y→∃ v,c[L.base+i*L.esz+j]?=some v∧v.oneCell'=true∧z0i ρ O w y v:=by
 cases o<;>simp [AO.rows] at ho
 ·subst ho
  obtain ⟨hz,c,t,hc,hl,hj⟩:=h
  refine ⟨hz,c,t,hc,fun i r hi=>?_,fun i r j y hi hy=>?_⟩
  ·rw [z18] at hi
   rename_i es
   cases hq:es[i]? with
   |none=>simp [hq] at hi
   |some q=>simp [hq] at hi; subst hi; rw [z0o]; exact hl i q hq
  ·rename_i es
   rw [z18] at hi
   cases hq:es[i]? with
   |none=>simp [hq] at hi
   |some q=>
    simp [hq] at hi; subst hi
    rw [z03] at hy
    cases hq2:q[j]? with
    |none=>simp [hq2] at hy
    |some d=>
     simp [hq2] at hy; subst hy
     obtain ⟨v,hv,h1,hr⟩:=hj i q j d hq hq2
     exact ⟨v,hv,h1, .d hr⟩
 ·subst ho; exact h
theorem z0u.of_rows {O:Nat→Prop} {L:Loc} {o:AO} {es:List (List AV)} (ho:o.rows=some es) (hz:0<L.esz) (c:Array Value) (t:TypeId) (hc:w.heap[L.blk]?=some (.cells c t (0,0)))
  (hl:∀ (i:Nat) (r:List AV),es[i]?=some r→r.length=L.esz)
  (hj:∀ (i:Nat) (r:List AV) (j:Nat) (y:AV),es[i]?=some r→r[j]?=some y→∃ v,c[L.base+i*L.esz+j]?=some v∧v.oneCell'=true∧z0i ρ O w y v):z0u P ρ O w L o:=by
 cases o<;>simp [AO.rows] at ho
 ·subst ho
  rename_i es
  refine ⟨hz,c,t,hc,fun i r hi=>?_,fun i r j y hi hy=>?_⟩
  ·have:=hl i (toA r) (by rw [z18,hi]; rfl)
   rwa [z0o] at this
  ·obtain ⟨v,hv,h1,hr⟩:=hj i (toA r) j (.d y) (by rw [z18,hi]; rfl) (by rw [z03,hy]; rfl)
   cases hr with|d hr=>exact ⟨v,hv,h1,hr⟩
 ·subst ho; exact ⟨hz,c,t,hc,hl,hj⟩
theorem x3b {O:Nat→Prop} {z:Nat} (hz:0<z) {es:List (List AV)} (n:Nat) (f:Nat→Option Value)
  (hl:∀ (i:Nat) (r:List AV),es[i]?=some r→r.length=z) (hn:n=es.length)
  (hj:∀ (i:Nat) (r:List AV) (j:Nat) (y:AV),es[i]?=some r→r[j]?=some y→∃ v,f (i*z+j)=some v∧v.oneCell'=true∧z0i ρ O w y v):
  ∃ cs:List Value,z15 ρ O w z es cs∧∀ (k:Nat) (v:Value),cs[k]?=some v→f k=some v:=by
 have hall:∀ k,k<n*z→∃ v,f k=some v:=by
  intro k hk
  obtain ⟨h1,h2,h3⟩:=x0f hz hk
  have hr:es[k / z]?=some es[k / z]:=eAa (by omega)
  have h2':k % z<(es[k / z]).length:=by rw [hl _ _ hr]; exact h2
  have hy:(es[k / z])[k % z]?=some (es[k / z])[k % z]:=eAa h2'
  obtain ⟨v,hv,_,_⟩:=hj _ _ _ _ hr hy
  exact ⟨v,by rw [h3]; exact hv⟩
 refine ⟨(List.range (n*z)).map (fun k=>(f k).getD undef),⟨by simp [hn],hl,fun i r j y hi hy=>?_⟩,fun k v hv=>?_⟩
 ·obtain ⟨v,hv,hv1,hr⟩:=hj i r j y hi hy
  have h1:=(eAd.1 hi).1
  have h2:=(eAd.1 hy).1
  rw [hl i r hi] at h2
  have:i*z+j<n*z:=by
   have:(i+1)*z≤n*z:=eAo _ (by omega)
   rw [eAl] at this; omega
  exact ⟨v,by simp [this,hv],hv1,hr⟩
 ·have hk:k<n*z:=by
   have:=(eAd.1 hv).1
   simpa using this
  rw [eAg,List.getElem?_range hk] at hv
  obtain ⟨u,hu⟩:=hall k hk
  simp [hu] at hv; rw [hu,hv]
theorem z12 {a b:Nat} (h:std.leN a b=true):a≤b:=eAf h
theorem z8r (hr:z0a P ρ h w) {z:Nat} (hz:0<z) {x:AV} {v:Value} (hx:z0i ρ (z0c ρ h) w x v) {c:Bool} {els:Els} (he:z2a std z h x=some (c,els)) (hc:c=true):
  ∃ (a:Option Addr) (n cap:Nat) (cs:List Value),v= .slice a n cap∧n=z56 std x∧n≤cap∧els.toA.length=n∧z15 ρ (z0c ρ h) w z els.toA cs∧
   ∀ w':World,w'.heap=w.heap→(Builtin.firstCells z n v).run P w'= .ok cs.toArray w':=by
 have hcell':∀ (w':World) (a:Addr),w'.heap=w.heap→w'.cell? a=w.cell? a:=fun w' a e=>by unfold World.cell?; rw [e]
 unfold z2a at he
 split at he
 ·rename_i full z0 es
  cases hx with
  |d hx=>cases hx with
   |lnil _ _ a cap hcap=>
    have he2:els= .d []:=by
     cases hb:Nat.beq z z0<;>rw [hb] at he<;>cases he<;>rfl
    subst he2
    refine ⟨a,0,cap,[],rfl,rfl,eAv _,rfl, .nil _ _,fun w' hw'=>?_⟩
    cases a<;>simp [Builtin.firstCells,loadCells,loadCellsFrom]
   |list _ _ b o z' cap hz' hne hO hlc hf hsz cell hone hcell hh=>
    cases hb:Nat.beq z z0 with
    |false=>
     rw [hb] at he
     cases es with
     |nil=>exact absurd rfl hne
     |cons _ _=>cases he
    |true=>
    rw [hb] at he; cases he
    have hzz:=eAc hb
    subst hzz
    obtain ⟨cs,h1,h2⟩:=x3b (ρ:=ρ) (w:=w) (O:=z0c ρ h) hz (es:=z4c es) es.length (fun k=>w.cell? ⟨b,o+k,none⟩) (fun i r hi=>by
      rw [z18] at hi
      cases hq:es[i]? with
      |none=>simp [hq] at hi
      |some q=>simp [hq] at hi; subst hi; rw [z0o]; exact hsz i q hq) (z0k es).symm (fun i r j y hi hy=>by
      rw [z18] at hi
      cases hq:es[i]? with
      |none=>simp [hq] at hi
      |some q=>
       simp [hq] at hi; subst hi
       rw [z03] at hy
       cases hq2:q[j]? with
       |none=>simp [hq2] at hy
       |some d=>
        simp [hq2] at hy; subst hy
        have g1:=(eAd.1 hq).1
        have g2:=(eAd.1 hq2).1
        rw [hsz i q hq] at g2
        have hlt:i*z+j<es.length*z:=by
         have:(i+1)*z≤es.length*z:=eAo _ g1
         rw [eAl] at this; omega
        exact ⟨_,hcell _ hlt,hone _ hlt, .d (hh i q j d hq hq2)⟩)
    refine ⟨_,es.length,cap,cs,rfl,rfl,hlc,z0k es,h1,fun w' hw'=>?_⟩
    have hlen:cs.length=es.length*z:=by rw [h1.1,z0k]
    have:=run_loadCells_list (P:=P) w' ⟨b,o,none⟩ cs (fun j v hv=>by rw [z39,hcell' _ _ hw']; exact h2 j v hv)
    rw [hlen] at this
    exact this
 ·rename_i id z' off len cap
  cases hb:Nat.beq z z' with
  |false=>rw [hb] at he; cases he
  |true=>
  rw [hb] at he; simp only [cond_true] at he
  have hzz:=eAc hb
  subst hzz
  cases hx with
  |nils _ _ _ _ a hcc=>
   have e0:els.toA=[]:=by
    split at he
    ·cases he; simp [Els.toA,std,z4c]
    ·cases he; simp [Els.toA]
    ·cases he
   refine ⟨a,0,0,[],rfl,rfl,eAv _,by rw [e0]; rfl,by rw [e0]; exact .nil _ _,fun w' hw'=>?_⟩
   cases a<;>simp [Builtin.firstCells,loadCells,loadCellsFrom]
  |slice _ _ _ _ _ L a cc hL hLz haa hcc hle=>
  obtain ⟨_,ho⟩:=hr.obj id L hL
  have key:∀ (o:AO) (es:List (List AV)),z0e h id=o→o.rows=some es→off+len≤es.length→els.toA=(es.drop off).take len→
    ∃ (a':Option Addr) (n cap':Nat) (cs:List Value),Value.slice a len cc= .slice a' n cap'∧n=z56 std (.slice id z off len cap)∧n≤cap'∧els.toA.length=n∧z15 ρ (z0c ρ h) w z els.toA cs∧
     ∀ w':World,w'.heap=w.heap→(Builtin.firstCells z n (.slice a len cc)).run P w'= .ok cs.toArray w':=by
   intro o es ho1 ho2 hle2 hels
   rw [ho1] at ho
   obtain ⟨_,c,t,hcb,hl,hj⟩:=ho.rows ho2
   rw [hLz] at hl hj
   have hlen:((es.drop off).take len).length=len:=by simp; omega
   have hget:∀ i,((es.drop off).take len)[i]?=if i<len then es[off+i]? else none:=fun i=>z0w es off len i
   obtain ⟨cs,h1,h2⟩:=x3b (ρ:=ρ) (w:=w) (O:=z0c ρ h) hz (es:=(es.drop off).take len) len (fun k=>c[L.base+off*z+k]?) (fun i r hi=>by
     rw [hget] at hi; split at hi
     ·exact hl _ r hi
     ·cases hi) hlen.symm (fun i r j y hi hy=>by
     rw [hget] at hi; split at hi
     ·obtain ⟨v,hv,h1,hrel⟩:=hj _ r j y hi hy
      refine ⟨v,?_,h1,hrel⟩
      rw [←hv]; congr 1; rw [eAl]; omega
     ·cases hi)
   refine ⟨a,len,cc,cs,rfl,rfl,hle,by rw [hels,hlen],by rw [hels]; exact h1,fun w' hw'=>?_⟩
   have hcl:cs.length=len*z:=by rw [h1.1,hlen]
   by_cases hc0:0<cc
   ·rw [haa hc0,hLz]
    have:=run_loadCells_list (P:=P) w' ⟨L.blk,L.base+off*z,none⟩ cs (fun j v hv=>by rw [z39,hcell' _ _ hw']; exact z4z hcb (h2 j v hv))
    rw [hcl] at this
    exact this
   ·have hl0:len=0:=by omega
    subst hl0
    have:cs=[]:=by simpa using hcl
    subst this
    cases a<;>simp [Builtin.firstCells,loadCells,loadCellsFrom]
  split at he
  ·rename_i es hob
   cases he
   refine key _ (z4c es) hob rfl ?_ ?_
   ·rw [z0k]; exact z12 hc
   ·simp [Els.toA,std,z3g]
  ·rename_i es hob
   cases he
   exact key _ es hob rfl (z12 hc) rfl
  ·cases he
 ·cases he
end
end Go.Am
end
section
namespace Go.Am
theorem x0h (n:Nat):∀ (f c:Nat),c≤n→Builtin.growBy n f c≤2*n+1000
 |0,c,h=>by simp [Builtin.growBy]; omega
 |f+1,c,h=>by
  simp only [Builtin.growBy]
  split
  ·omega
  ·by_cases h2:c+(c+768) / 4≤n
   ·exact x0h n f _ h2
   ·have:∀ f,Builtin.growBy n f (c+(c+768) / 4)≤c+(c+768) / 4:=by
     intro f
     cases f with
     |zero=>simp [Builtin.growBy]
     |succ f=>simp only [Builtin.growBy]; rw [if_pos (by omega)]; omega
    have:=this f; omega
theorem x5t (n o:Nat) (h:o<n):Builtin.nextslicecap n o≤2*n+1000:=by
 unfold Builtin.nextslicecap
 split
 ·omega
 ·split
  ·omega
  ·exact x0h n 4 o (by omega)
section
variable {P:Program} {ρ:Rho} {h:List AO} {w:World}
theorem z8e {S T2:TypeId} {e:TypeId} (hS:P.underlying S=some (.slice e)) {d2:TypeDesc} (h2:P.underlying T2=some d2) (hd2:∀ k,d2≠ .int k) {z eb:Nat} (hz:z78 P e=some z) (heb:y0c P e=some eb) {zs:List D} (hzero:y21 P e=some zs)
  (ty:TypeId) {a a2:Option Addr} {n cap m cap2:Nat} {cs xs:List Value} (hs:∀ w':World,w'.heap=w.heap→(Builtin.firstCells z n (.slice a n cap)).run P w'= .ok cs.toArray w') (hx:∀ w':World,w'.heap=w.heap→(Builtin.firstCells z m (.slice a2 m cap2)).run P w'= .ok xs.toArray w')
  (hm:cap<n+m) (hn:n≤cap) (hb:n+m≤y1v) (hbb:eb≤60000):
  ∃ (rest:List Value) (nc d:Nat),(Builtin.append_ #[S,T2] ty #[.slice a n cap, .slice a2 m cap2]).run P w= .ok (.slice (some ⟨w.heap.size,0,none⟩) (n+m) nc) { (World.push w (.cells (cs++xs++rest).toArray e)) with drawn:=d }∧
   n+m≤nc∧rest.length=(nc - (n+m))*zs.length∧z0m w.drawn d:=by
 have hbytes:∃ i,P.info? e=some i∧i.bytes=eb:=by
  unfold y0c at heb
  cases hi:P.info? e with
  |none=>simp [hi] at heb
  |some i=>exact ⟨i,rfl,by simpa [hi] using heb⟩
 obtain ⟨i,hi,hib⟩:=hbytes
 have hzz:∃ zv,i.zero=some zv∧y04 zv.cells.toList=some zs:=by
  unfold y21 at hzero
  rw [hi] at hzero
  simp only [eAx] at hzero
  cases hq:i.zero with
  |none=>simp [hq] at hzero
  |some zv=>exact ⟨zv,rfl,by simpa [hq] using hzero⟩
 obtain ⟨zv,hzv,hzl⟩:=hzz
 have hnext:¬ (Builtin.nextslicecap (n+m) cap*eb>2 ^ 48):=by
  have h1:=x5t (n+m) cap hm
  unfold y1v at hb
  have:Builtin.nextslicecap (n+m) cap*eb≤2001000*60000:=Nat.mul_le_mul (by omega) hbb
  omega
 have hti:(typeInfo e).run P w= .ok i w:=by simp [typeInfo,hi]
 have hlen:¬ ((n+m:Nat):Int)>IntKind.i64.max:=by
  unfold y1v at hb
  simp [IntKind.max,IntKind.signed,IntKind.bits]; omega
 have hmatch:(match d2 with| .int _=>true|_=>false)=false:=by
  cases d2<;>first|rfl|exact absurd rfl (hd2 _)
 refine ⟨(Builtin.zeroCells zv.cells ((Question.appendCap (n+m) cap e).cut (w.tape w.drawn (.appendCap (n+m) cap e)) - (n+m))).toList,(Question.appendCap (n+m) cap e).cut (w.tape w.drawn (.appendCap (n+m) cap e)),w.drawn+1,?_,?_,?_,z0m.succ _⟩
 ·have hzw:∀ w,(zeroValue e).run P w= .ok zv w:=fun w=>by simp [zeroValue,typeInfo,hi,hzv]
  have hs':∀ d,(Builtin.firstCells z n (.slice a n cap)).run P { w with drawn:=d }= .ok cs.toArray { w with drawn:=d }:=fun d=>hs _ rfl
  have hx':∀ d,(Builtin.firstCells z m (.slice a2 m cap2)).run P { w with drawn:=d }= .ok xs.toArray { w with drawn:=d }:=fun d=>hx _ rfl
  have hti':∀ w,(typeInfo e).run P w= .ok i w:=fun w=>by simp [typeInfo,hi]
  unfold Builtin.append_
  simp only [eBc,eCo,eCe,Sem.run_bind,z0d hS,Result.andThen_ok,z0v hz,z0d h2,Sem.run_pure,hmatch,Builtin.lenOf,eAi,if_false,Sem.run_ite,show ¬ (n+m≤cap) by omega,hlen,false_and,
   hti',hib,hnext,run_choose,Question.forced,run_askRoom,hs',hx',hzw,newRow,run_newObj,not_false_eq_true,if_true,eCq]
  have harr:∀ Z:Array Value,cs.toArray++xs.toArray++Z=(cs++xs++Z.toList).toArray:=fun Z=>by apply Array.ext'; simp
  rw [harr]; rfl
 ·simp [Question.cut]
 ·obtain ⟨h1,_⟩:=z68 hzl
  simp [Builtin.zeroCells,h1]
theorem z9m {S T2:TypeId} {e:TypeId} (hS:P.underlying S=some (.slice e)) {d2:TypeDesc} (h2:P.underlying T2=some d2) (hd2:∀ k,d2≠ .int k) {z:Nat} (hz:z78 P e=some z)
  (ty:TypeId) {b o n cap:Nat} {a2:Option Addr} {m cap2:Nat} {xs:List Value} (hx:(Builtin.firstCells z m (.slice a2 m cap2)).run P w= .ok xs.toArray w)
  (hm:n+m≤cap) {c:Array Value} {t:TypeId} (hc:w.heap[b]?=some (.cells c t (0,0))) (hroom:o+n*z+xs.length≤c.size) (h1:∀ u∈xs,u.oneCell'=true):
  (Builtin.append_ #[S,T2] ty #[.slice (some ⟨b,o,none⟩) n cap, .slice a2 m cap2]).run P w=
   .ok (.slice (some ⟨b,o,none⟩) (n+m) cap) (World.setObj w b (.cells (c.toList.take (o+n*z)++xs++c.toList.drop (o+n*z+xs.length)).toArray t (0,0))):=by
 have hmatch:(match d2 with| .int _=>true|_=>false)=false:=by
  cases d2<;>first|rfl|exact absurd rfl (hd2 _)
 have hst:=run_storeCells_at (P:=P) b (o+n*z) t xs 0 c w hc (by simpa using hroom) h1
 rw [z6d hc] at hst
 simp only [eAt] at hst
 unfold Builtin.append_
 simp only [eBc,eCo,eCe,Sem.run_bind,z0d hS,Result.andThen_ok,z0v hz,z0d h2,Sem.run_pure,hmatch,Builtin.lenOf,eAi,if_false,Sem.run_ite,hm,if_true,
  eCq,hx,z39,hst]
def x52:Option Nat→List (Nat×AO)
 |some id=>[(id, .dead)]
 |none=>[]
theorem w5c (hr:z0a P ρ h w) {new:Nat} (hn:ρ new=none) (kill:Option Nat) {z:Nat} (hz:0<z) {o:AO} {es xs:List (List AV)} (ho:o.rows=some (es++xs)) {cs vs rest:List Value}
  (he:z15 ρ (z0c ρ h) w z es cs) (hx:z15 ρ (z0c ρ h) w z xs vs) (e:TypeId) (n nc d:Nat) (hln:n=(es++xs).length) (hle:n≤nc) (hrest:rest.length=(nc - n)*z) (hdr:z0m w.drawn d) {s:Sem Value}
  (hs:s.run P w= .ok (.slice (some ⟨w.heap.size,0,none⟩) n nc) { (World.push w (.cells (cs++vs++rest).toArray e)) with drawn:=d }) (c:Bool):
  z0h P ρ h w new s ⟨c, .slice new z 0 n none,x52 kill++[(new,o)]⟩:=by
 obtain ⟨h0,hu,hr0,hext⟩:∃ h0,z06 h (x52 kill++[(new,o)])=z0x h0 new o∧z0a P ρ h0 w∧Ext (fun id=>id≠new) ρ h w ρ h0 w:=by
  cases kill with
  |none=>exact ⟨h,rfl,hr,Ext.refl _ _ _ _⟩
  |some id=>exact ⟨z0x h id .dead,rfl,hr.kill id,Ext.kill _ _ _ _ _⟩
 have hk0:=hext.keep
 have hrel:=(he.append hx).keep hk0 (fun _ _ h=>h)
 have hkp:=z5n hr0 hn ⟨w.heap.size,0,z⟩ o (.cells (cs++vs++rest).toArray e) rfl
 have hrel2:=hrel.keep hkp (Rho.put_mono ρ new ⟨w.heap.size,0,z⟩ hn)
 have hobj:z0u P (ρ.put new ⟨w.heap.size,0,z⟩) (z0c (ρ.put new ⟨w.heap.size,0,z⟩) (z0x h0 new o)) (World.push w (.cells (cs++vs++rest).toArray e)) ⟨w.heap.size,0,z⟩ o:=by
  refine z0u.of_rows ho hz _ e (z2v _ _) hrel2.2.1 (fun i r j y hi hy=>?_)
  obtain ⟨v,hv,h1,hvr⟩:=hrel2.2.2 i r j y hi hy
  refine ⟨v,?_,h1,hvr⟩
  simp only [eBc,eAp]
  rw [eBz]
  ·exact hv
  ·exact (eAd.1 hv).1
 have hnew:=hr0.new hn z o _ hobj
 have hnew2:=hnew.drawn d hdr
 refine ⟨_,_,ρ.put new ⟨w.heap.size,0,z⟩,hs,?_,by show z0a P _ (z06 h (x52 kill++[(new,o)])) _; rw [hu]; exact hnew2,?_, .inr ⟨o,by simp⟩⟩
 ·show z0i _ (z0c _ (z06 h (x52 kill++[(new,o)]))) _ _ _
  rw [hu]
  refine .slice new z 0 n none ⟨w.heap.size,0,z⟩ _ nc (Rho.put_same _ _ _) rfl (fun _=>by simp) (.inr ⟨rfl,(cs++vs++rest).length,?_,?_⟩) hle
  ·show z0t (World.push w _) _=_
   rw [z0n (z2v _ _)]; simp
  ·have h1:=(he.append hx).1
   rw [←hln] at h1
   simp only [eBu] at h1⊢
   rw [hrest,h1, ←eAl]
   simp; exact eAo _ (by omega)
 ·show Ext _ _ _ _ _ (z06 h (x52 kill++[(new,o)])) _
  rw [hu]
  exact hext.trans ((Ext.new hr0 hn ⟨w.heap.size,0,z⟩ o _ rfl).trans (Ext.drawn _ _ _ _ d hdr))
end
end Go.Am
end
section
namespace Go.Am
theorem and_true {a b:Bool} (h:std.and a b=true):a=true∧b=true:=by simpa [std] using h
theorem z10 {i j:Int} (h:std.cmp .leq i j=true):i≤j:=by simpa [std,z3o] using h
theorem z8y (a b:Els):(Els.app std a b).rows=some (a.toA++b.toA):=by
 cases a<;>cases b<;>simp [Els.app,AO.rows,Els.toA,std,z3g]
theorem x15 {o o':AO} {i:Nat} {x:Els} (h:x3f std o i x=some o'):∃ E,o.rows=some E∧o'.rows=some (z3w E i x.toA):=by
 cases o<;>cases x<;>simp [x3f] at h<;>subst h
 ·exact ⟨_,rfl,by simp [AO.rows,std,z3w,Els.toA,z3g]⟩
 ·exact ⟨_,rfl,rfl⟩
 ·exact ⟨_,rfl,rfl⟩
 ·exact ⟨_,rfl,rfl⟩
theorem y3l (l xs:List (List AV)) (i k:Nat) (h:i+xs.length≤l.length):(z3w l i xs)[k]?=if i≤k∧k<i+xs.length then xs[k - i]? else l[k]?:=by
 unfold z3w
 rw [eCg,eAs]
 have ho:(l.take i).length=i:=by simp; omega
 rw [ho]
 split
 ·rename_i h1
  rw [if_neg (by omega),List.getElem?_take,if_pos h1]
 ·rename_i h1
  rw [eAs]
  split
  ·rename_i h2; rw [if_pos (by omega)]
  ·rename_i h2; rw [if_neg (by omega),eBp]; congr 1; omega
section
variable {P:Program} {ρ:Rho} {h:List AO} {w:World}
theorem z89 {O:Nat→Prop} {z:Nat} (hz:0<z) {es:List (List AV)} {cs:List Value} (hr:z15 ρ O w z es cs):∀ u∈cs,u.oneCell'=true:=by
 intro u hu
 obtain ⟨k,hk,hku⟩:=List.getElem_of_mem hu
 obtain ⟨h1,h2,h3⟩:=hr
 have hk0:=hk
 rw [h1] at hk
 obtain ⟨g1,g2,g3⟩:=x0f hz hk
 have hi:es[k / z]?=some es[k / z]:=eAa g1
 have hlt:k % z<(es[k / z]).length:=by rw [h2 _ _ hi]; exact g2
 obtain ⟨v,hv,hv1,hrel⟩:=h3 _ _ _ _ hi (eAa hlt)
 rw [←g3,eAa hk0] at hv
 cases hv
 rw [←hku]; exact hv1
theorem z9z {O:Nat→Prop} {z:Nat} (hz:0<z) {base:Nat} {c:Array Value} {E X:List (List AV)} {vs:List Value} {i:Nat}
  (hl:∀ (i:Nat) (r:List AV),E[i]?=some r→r.length=z)
  (hj:∀ (i:Nat) (r:List AV) (j:Nat) (y:AV),E[i]?=some r→r[j]?=some y→∃ v,c[base+i*z+j]?=some v∧v.oneCell'=true∧z0i ρ O w y v)
  (hx:z15 ρ O w z X vs) (hle:i+X.length≤E.length) (hroom:base+i*z+vs.length≤c.size):
  (∀ (k:Nat) (r:List AV),(z3w E i X)[k]?=some r→r.length=z)∧
  ∀ (k:Nat) (r:List AV) (j:Nat) (y:AV),(z3w E i X)[k]?=some r→r[j]?=some y→
   ∃ v,((c.toList.take (base+i*z)++vs++c.toList.drop (base+i*z+vs.length)).toArray)[base+k*z+j]?=some v∧v.oneCell'=true∧z0i ρ O w y v:=by
 have hlen:∀ (k:Nat) (r:List AV),(z3w E i X)[k]?=some r→r.length=z:=by
  intro k r hk
  rw [y3l _ _ _ _ hle] at hk
  split at hk
  ·exact hx.2.1 _ r hk
  ·exact hl k r hk
 refine ⟨hlen,fun k r j y hk hy=>?_⟩
 have hjz:j<z:=by rw [←hlen k r hk]; exact (eAd.1 hy).1
 rw [y3l _ _ _ _ hle] at hk
 have hsp:=z4f c.toList vs (base+i*z) (base+k*z+j) (by simpa using hroom)
 rw [eBc,hsp]
 have hvl:=hx.1
 split at hk
 ·rename_i hin
  obtain ⟨v,hv,h1,hrel⟩:=hx.2.2 _ r j y hk hy
  refine ⟨v,?_,h1,hrel⟩
  have e:k*z=i*z+(k - i)*z:=by rw [←eAl]; congr 1; omega
  have hlt:(k - i)*z+j<vs.length:=(eAd.1 hv).1
  rw [if_pos (by omega),show base+k*z+j - (base+i*z)=(k - i)*z+j by omega]
  exact hv
 ·rename_i hout
  obtain ⟨v,hv,h1,hrel⟩:=hj k r j y hk hy
  refine ⟨v,?_,h1,hrel⟩
  rw [if_neg]
  ·simpa using hv
  ·rintro ⟨g1,g2⟩
   rw [hvl] at g2
   rcases eBw k i with hlt|hge
   ·have:(k+1)*z≤i*z:=eAo _ hlt
    rw [eAl] at this; omega
   ·have:(i+X.length)*z≤k*z:=eAo _ (by omega)
    rw [eAl] at this; omega
theorem z0a.move (hr : z0a P ρ h w) {id new : Nat} {L : Loc} (hL : ρ id = some L) (hl : (z0e h id).live = true) (hn : ρ new = none) (base esz : Nat) (o : AO) (ho : o.live = true) (x : Obj)
    (hs : ∀ n, z0t w L.blk = some n → z0t (World.setObj w L.blk x) L.blk = some n)
    (hx : ∀ (k : z3s (z0c ρ h) (z0c (ρ.put new ⟨L.blk, base, esz⟩) (z0x (z0x h id .dead) new o)) w (World.setObj w L.blk x)), z0u P (ρ.put new ⟨L.blk, base, esz⟩) (z0c (ρ.put new ⟨L.blk, base, esz⟩) (z0x (z0x h id .dead) new o)) (World.setObj w L.blk x) ⟨L.blk, base, esz⟩ o) :
    z0a P (ρ.put new ⟨L.blk, base, esz⟩) (z0x (z0x h id .dead) new o) (World.setObj w L.blk x) ∧
      Ext (fun j => j ≠ new) ρ h w (ρ.put new ⟨L.blk, base, esz⟩) (z0x (z0x h id .dead) new o) (World.setObj w L.blk x) := by
  have hne : id ≠ new := by rintro rfl; rw [hn] at hL; cases hL
  have nth : ∀ j, j ≠ new → j ≠ id → z0e (z0x (z0x h id .dead) new o) j = z0e h j := fun j h1 h2 => by
    rw [z0b _ _ _ _ (Ne.symm h1), z0b _ _ _ _ (Ne.symm h2)]
  have nthid : z0e (z0x (z0x h id .dead) new o) id = .dead := by rw [z0b _ _ _ _ (Ne.symm hne), z0g]
  have own : ∀ b, z0c (ρ.put new ⟨L.blk, base, esz⟩) (z0x (z0x h id .dead) new o) b → z0c ρ h b := by
    rintro b (hf | ⟨j, M, hM, hj, rfl⟩)
    · exact .inl hf
    by_cases e : j = new
    · subst e; rw [Rho.put_same] at hM; cases hM; exact .inr ⟨id, L, hL, hl, rfl⟩
    · rw [Rho.put_ne _ _ _ _ e] at hM
      by_cases e2 : j = id
      · subst e2; rw [nthid] at hj; cases hj
      · rw [nth j e e2] at hj; exact .inr ⟨j, M, hM, hj, rfl⟩
  have k : z3s (z0c ρ h) (z0c (ρ.put new ⟨L.blk, base, esz⟩) (z0x (z0x h id .dead) new o)) w (World.setObj w L.blk x) :=
    { size := by rw [z1c]; omega
      drawn := z0m.refl _
      frame := fun b hb hnb => z1f _ _ _ _ (fun e => hnb (e ▸ .inr ⟨id, L, hL, hl, rfl⟩))
      own := fun b _ hb => own b hb
      shape := fun b n hb => by
        by_cases he : b = L.blk
        · subst he; exact hs n hb
        · unfold z0t; rw [z1f _ _ _ _ he]; exact hb }
  refine ⟨⟨fun j M hM => ?_, fun i j M N h1 h2 l1 l2 hb => ?_, fun b hf => by rw [z1c]; exact hr.fr b hf, fun j M hM hj hf => ?_, hr.gl.keep k⟩, rfl, rfl, rfl, k, fun j hj => Rho.put_ne _ _ _ _ hj, rfl,
    fun b hf => z1f _ _ _ _ (fun e => hr.sep id L hL hl (e ▸ hf))⟩
  · by_cases e : j = new
    · subst e; rw [Rho.put_same] at hM; cases hM
      rw [z0g]
      exact ⟨by rw [z1c]; exact (hr.obj id L hL).1, hx k⟩
    · rw [Rho.put_ne _ _ _ _ e] at hM
      obtain ⟨g1, g2⟩ := hr.obj j M hM
      refine ⟨by rw [z1c]; exact g1, ?_⟩
      by_cases e2 : j = id
      · subst e2; rw [nthid]; trivial
      · rw [nth j e e2]
        by_cases hlj : (z0e h j).live = true
        · exact g2.keep k (Rho.put_mono _ _ _ hn) (z1f _ _ _ _ (fun eb => e2 (hr.inj j id M L hM hL hlj hl eb)))
        · cases hjo : z0e h j <;> simp_all [AO.live, z0u]
  · by_cases e1 : i = new
    · subst e1
      by_cases e2 : j = i
      · exact e2.symm
      · rw [Rho.put_same] at h1; cases h1
        rw [Rho.put_ne _ _ _ _ e2] at h2
        by_cases e3 : j = id
        · subst e3; rw [nthid] at l2; cases l2
        · rw [nth j e2 e3] at l2
          exact absurd (hr.inj id j L N hL h2 hl l2 hb).symm e3
    · rw [Rho.put_ne _ _ _ _ e1] at h1
      by_cases e3 : i = id
      · subst e3; rw [nthid] at l1; cases l1
      · rw [nth i e1 e3] at l1
        by_cases e2 : j = new
        · subst e2; rw [Rho.put_same] at h2; cases h2
          exact absurd (hr.inj i id M L h1 hL l1 hl hb) e3
        · rw [Rho.put_ne _ _ _ _ e2] at h2
          by_cases e4 : j = id
          · subst e4; rw [nthid] at l2; cases l2
          · rw [nth j e2 e4] at l2
            exact hr.inj i j M N h1 h2 l1 l2 hb
  · by_cases e : j = new
    · subst e; rw [Rho.put_same] at hM; cases hM
      exact hr.sep id L hL hl hf
    · rw [Rho.put_ne _ _ _ _ e] at hM
      by_cases e2 : j = id
      · subst e2; rw [nthid] at hj; cases hj
      · rw [nth j e e2] at hj; exact hr.sep j M hM hj hf
theorem w5o (hr:z0a P ρ h w) {new:Nat} {z:Nat} (hz:0<z) {es:List (List D)} {cs rest:List Value} (he:z15 ρ (z0c ρ h) w z (z4c es) cs) (hne:es≠[]) (e:TypeId) (nc d:Nat) (hle:es.length≤nc) (hdr:z0m w.drawn d) {s:Sem Value}
  (hs:s.run P w= .ok (.slice (some ⟨w.heap.size,0,none⟩) es.length nc) { (World.push w (.cells (cs++rest).toArray e)) with drawn:=d }) (c:Bool):z0h P ρ h w new s ⟨c, .d (.list false z es),[]⟩:=by
 have hr2:=(hr.push0 (.cells (cs++rest).toArray e)).drawn d hdr
 have hx2:Ext (fun id=>id≠new) ρ h w ρ h { (World.push w (.cells (cs++rest).toArray e)) with drawn:=d }:=(Ext.push0 _ hr _).trans (Ext.drawn _ _ _ _ d hdr)
 refine ⟨_,_,ρ,hs,?_,hr2,hx2, .inl rfl⟩
 have hlen:cs.length=es.length*z:=by rw [he.1,z0k]
 refine .d (.list false es w.heap.size 0 z nc hz hne (fun hb=>Nat.lt_irrefl _ (z50 hr hb)) hle (by simp) (fun i r hi=>?_) (fun k=>(cs[k]?).getD undef) (fun k hk=>?_) (fun k hk=>?_) (fun i r j y hi hy=>?_))
 ·have:=he.2.1 i (toA r) (by rw [z18,hi]; rfl)
  rw [z0o] at this; exact this
 ·have hk':k<cs.length:=by rw [hlen]; exact hk
  rw [eAa hk']
  exact z89 hz he _ (eCp _)
 ·have hk':k<cs.length:=by rw [hlen]; exact hk
  rw [eAa hk']
  refine z4z (c:=(cs++rest).toArray) (z2v _ _) ?_
  rw [eBc,eAp,eBz hk',eAa hk']
  rfl
 ·obtain ⟨v,hv,_,hrel⟩:=he.2.2 i (toA r) j (.d y) (by rw [z18,hi]; rfl) (by rw [z03,hy]; rfl)
  simp only [hv,eBk]
  cases hrel with
  |d hrel=>exact hrel.keep hx2.keep
theorem w12 (hr:z0a P ρ h w) {new:Nat} {z:Nat} (hz:0<z) {es:List (List D)} {cs:List Value} (he:z15 ρ (z0c ρ h) w z (z4c es) cs) (hne:es≠[]) (e:TypeId) {s:Sem Value} {rv:Array Value} (hrv:cs=rv.toList)
  (hs:s.run P w= .ok (.slice (some ⟨w.heap.size,0,none⟩) es.length es.length) (World.push w (.cells rv e))):z0h P ρ h w new s ⟨true, .d (.list true z es),[]⟩:=by
 have hr2:=hr.push0 (.cells rv e)
 have hx2:Ext (fun id=>id≠new) ρ h w ρ h (World.push w (.cells rv e)):=Ext.push0 _ hr _
 refine ⟨_,_,ρ,hs,?_,hr2,hx2, .inl rfl⟩
 have hlen:cs.length=es.length*z:=by rw [he.1,z0k]
 refine .d (.list true es w.heap.size 0 z es.length hz hne (fun hb=>Nat.lt_irrefl _ (z50 hr hb)) (eAk _) (fun _=>rfl) (fun i r hi=>?_) (fun k=>(cs[k]?).getD undef) (fun k hk=>?_) (fun k hk=>?_) (fun i r j y hi hy=>?_))
 ·have:=he.2.1 i (toA r) (by rw [z18,hi]; rfl)
  rw [z0o] at this; exact this
 ·have hk':k<cs.length:=by rw [hlen]; exact hk
  rw [eAa hk']
  exact z89 hz he _ (eCp _)
 ·have hk':k<cs.length:=by rw [hlen]; exact hk
  rw [eAa hk']
  refine z4z (c:=rv) (z2v _ _) ?_
  rw [eAp]
  have:rv[k]?=cs[k]?:=by rw [hrv]; simp
  rw [this,eAa hk']
  rfl
 ·obtain ⟨v,hv,_,hrel⟩:=he.2.2 i (toA r) j (.d y) (by rw [z18,hi]; rfl) (by rw [z03,hy]; rfl)
  simp only [hv,eBk]
  cases hrel with
  |d hrel=>exact hrel.keep hx2.keep
theorem x1i (a b:List (List D)):z4c (a++b)=z4c a++z4c b:=by rw [z3g,z3g,z3g,List.map_append]
theorem z99 {z:Nat} {id z' off len:Nat} {cap:Option Nat} {c:Bool} {els:Els} (h1:z2a std z h (.slice id z' off len cap)=some (c,els)) (hc:c=true):
  z=z'∧∃ E,(z0e h id).rows=some E∧off+len≤E.length∧els.toA=(E.drop off).take len:=by
 simp only [z2a] at h1
 cases hb:Nat.beq z z' with
 |false=>rw [hb] at h1; cases h1
 |true=>
 rw [hb] at h1; simp only [cond_true] at h1
 refine ⟨eAc hb,?_⟩
 split at h1
 ·rename_i es ho; cases h1
  exact ⟨_,by rw [ho]; rfl,by rw [z0k]; exact z12 hc,by simp [Els.toA,std,z3g]⟩
 ·rename_i es ho; cases h1
  exact ⟨_,by rw [ho]; rfl,z12 hc,rfl⟩
 ·cases h1
theorem z6q {o:AO} {E:List (List AV)} (h:o.rows=some E):o.live=true:=by cases o<;>simp [AO.rows] at h<;>rfl
theorem y0m {S T2:TypeId} {ti ti2:TI} (ht:z5t P S ti) (ht2:z5t P T2 ti2) (hd2':∃ e z b a zs,ti2.desc= .slc e z b a zs) (hr:z0a P ρ h w) {new:Nat} (hn:ρ new=none) {q:Bool} {s x:AV} {vs vx:Value}
  (hs:z0i ρ (z0c ρ h) w s vs) (hx:z0i ρ (z0c ρ h) w x vx) {ty:TypeId} {res:Res} (hq:∀ b,z3l std s x=some b→b=q) {r:List D} (he:z1t std ti h new q r s x=some res) (hc:res.c=true):
  z0h P ρ h w new (Builtin.append_ #[S,T2] ty #[vs,vx]) res:=by
 obtain ⟨d,hd,hda,hk⟩:=ht.desc
 obtain ⟨d2,hdd2,_,hk2⟩:=ht2.desc
 obtain ⟨e2,z2,b2,a2,zs2,hdesc2⟩:=hd2'
 rw [hdesc2] at hk2
 obtain ⟨rfl,_⟩:=hk2
 have hint:∀ k,TypeDesc.slice e2≠ .int k:=by intro k; simp
 unfold z1t at he
 split at he
 rotate_left
 ·cases he
 rename_i e z eb ea ez hdesc
 rw [hdesc] at hk
 obtain ⟨rfl,hz,heb,_,hez,hezl⟩:=hk
 cases hb:(Nat.ble 1 z&&Nat.ble eb 60000) with
 |false=>rw [hb] at he; cases he
 |true=>
 rw [hb] at he; simp only [cond_true] at he
 simp only [eAb] at hb
 have hzp:0<z:=eAf hb.1
 have hebb:eb≤60000:=eAf hb.2
 split at he
 rotate_left
 ·cases he
 rename_i cx xs cs es hxs hes
 have grow:∀ (kill:Option Nat) (c:Bool) (n:Nat),cx=true→cs=true→1≤z56 std x→n=z56 std s→n+z56 std x≤y1v→
   (∀ (a:Option Addr) (cap:Nat),vs= .slice a n cap→cap<n+z56 std x)→z0h P ρ h w new (Builtin.append_ #[S,T2] ty #[vs,vx]) ⟨c, .slice new z 0 (n+z56 std x) none,x52 kill++[(new,Els.app std es xs)]⟩:=by
  intro kill c n h1 h2 h3 h4 h5 h6
  obtain ⟨a,m,capx,cxs,rfl,hm,hmc,hxl,hxr,hxf⟩:=z8r (P:=P) hr hzp hx hxs h1
  obtain ⟨b,k,capb,ces,rfl,hk,hkc,hel,her,hef⟩:=z8r (P:=P) hr hzp hs hes h2
  rw [←hm] at h3 h5 h6⊢
  have hnk:n=k:=h4.trans hk.symm
  subst hnk
  obtain ⟨rest,nc,dd,hrun,hnc,hrl,hdr⟩:=z8e (P:=P) (w:=w) hd hdd2 hint hz heb hez ty hef hxf (h6 b capb rfl) hkc h5 hebb
  exact w5c hr hn kill hzp (z8y es xs) her hxr e (n+m) nc dd (by rw [eBu,hel,hxl]) hnc (by rw [hrl,hezl]) hdr hrun c
 split at he
 ·
  rename_i full z0 es0
  split at he
  ·cases hdt:w3k r z0 with
   |true=>
    rw [hdt] at he
    simp only [cond_true] at he
    split at he
    ·rename_i e1 y1
     cases he
     simp only at hc
     obtain ⟨h1,hc⟩:=and_true hc
     obtain ⟨h2,h3⟩:=and_true hc
     have hfull:=hq full rfl
     subst hfull
     have hcs:cs=true:=by
      simp only [z2a] at hes
      cases hb:Nat.beq z z0 with
      |true=>rw [hb] at hes; cases hes; rfl
      |false=>rw [hb] at hes; simp only [cond_false] at hes; split at hes<;>cases hes; rfl
     obtain ⟨a,m,capx,cxs,rfl,hm,hmc,hxl,hxr,hxf⟩:=z8r (P:=P) hr hzp hx hxs h1
     obtain ⟨b,k,capb,ces,rfl,hk,hkc,hel,her,hef⟩:=z8r (P:=P) hr hzp hs hes hcs
     rw [←hm, ←hk] at h3
     rw [←hm] at h2
     have hm1:=z12 h2
     have hlt:capb<k+m:=by
      cases hs with
      |d hs=>
       generalize hkk:k=kk at hs
       cases hs with
       |lnil _ _ _ _ hcap=>have:=hcap rfl; omega
       |list _ _ _ _ _ _ _ _ _ _ hf=>have:=hf rfl; omega
     obtain ⟨rest,nc,dd,hrun,hnc,hrl,hdr⟩:=z8e (P:=P) (w:=w) hd hdd2 hint hz heb hez ty hef hxf hlt hkc (z12 h3) hebb
     have hl1:e1.length=k:=by have:=hel; simp only [Els.toA,z0k] at this; omega
     have hl2:y1.length=m:=by have:=hxl; simp only [Els.toA,z0k] at this; omega
     have hll:(e1++y1).length=k+m:=by rw [eBu,hl1,hl2]
     refine w5o hr hzp (es:=e1++y1) (cs:=ces++cxs) (rest:=rest) (by rw [x1i]; exact her.append hxr) (by intro e0; rw [e0] at hll; simp at hll; omega) e nc dd (by rw [hll]; exact hnc) hdr (by rw [hll]; exact hrun) _
    ·cases he
   |false=>
   rw [hdt] at he
   simp only [cond_false] at he
   cases he
   simp only at hc
   obtain ⟨h1,hc⟩:=and_true hc
   obtain ⟨h2,h3⟩:=and_true hc
   have hfull:=hq full rfl
   subst hfull
   have hcs:cs=true:=by
    simp only [z2a] at hes
    cases hb:Nat.beq z z0 with
    |true=>rw [hb] at hes; cases hes; rfl
    |false=>rw [hb] at hes; simp only [cond_false] at hes; split at hes<;>cases hes; rfl
   refine grow none _ _ h1 hcs (z12 h2) rfl (z12 h3) ?_
   intro a cap hv
   have:=z12 h2
   cases hs with
   |d hs=>
    subst hv
    generalize hnn:z56 std (AV.d (D.list true z0 es0))=nn at hs
    cases hs with
    |lnil _ _ _ _ hcap=>have:=hcap rfl; omega
    |list _ _ _ _ _ _ _ _ _ _ hf=>have:=hf rfl; omega
  ·cases he
 ·
  rename_i id z' off len
  cases he
  simp only at hc
  obtain ⟨h1,hc⟩:=and_true hc
  obtain ⟨h2,hc⟩:=and_true hc
  obtain ⟨h3,h4⟩:=and_true hc
  have hs0:=hs
  cases hs with
  |nils _ _ _ _ a hcc=>
   refine grow (some id) _ 0 h1 h2 (z12 h3) rfl (z12 h4) ?_
   intro a' cap' hv
   cases hv
   have:=z12 h3
   omega
  |slice _ _ _ _ _ L a cap hL hLz haa hcc hle=>
  by_cases hfit:len+z56 std x≤cap
  ·
   obtain ⟨rfl,E,hE,hoff,hels⟩:=z99 hes h2
   obtain ⟨a2',m,capx,cxs,rfl,hm,hmc,hxl,hxr,hxf⟩:=z8r (P:=P) hr hzp hx hxs h1
   rw [←hm] at h3 h4 hfit⊢
   have hm1:1≤m:=z12 h3
   rw [haa (by omega),hLz]
   rcases hcc with hcc|⟨_,nb,hnb,hroom⟩
   ·cases hcc
   obtain ⟨_,hob⟩:=hr.obj id L hL
   obtain ⟨_,c,t,hcb,hl,hj⟩:=hob.rows hE
   rw [hLz] at hl hj hroom
   rw [z0n hcb] at hnb
   cases hnb
   have hcx:cxs.length=m*z:=by rw [hxr.1,hxl]
   have hmul:(off+cap)*z=off*z+cap*z:=eAl _ _ _
   have hmul2:(len+m)*z≤cap*z:=eAo _ hfit
   have hmul3:(len+m)*z=len*z+m*z:=eAl _ _ _
   have hrun:=z9m (P:=P) (w:=w) hd hdd2 hint hz ty (hxf w rfl) hfit hcb (o:=L.base+off*z) (by omega) (z89 hzp hxr)
   have hlive:=z6q hE
   have hbs:∀ k,z0t w L.blk=some k→z0t (World.setObj w L.blk (.cells (c.toList.take (L.base+off*z+len*z)++cxs++c.toList.drop (L.base+off*z+len*z+cxs.length)).toArray t (0,0))) L.blk=some k:=by
    intro k hk
    rw [z0n hcb] at hk; cases hk
    rw [z0n (z0l _ _ _ (eAe.1 hcb).1)]
    congr 1
    simp; omega
   obtain ⟨g1,g2⟩:=hr.move hL hlive hn (L.base+off*z) z (Els.app std es xs) (z6q (z8y es xs)) _ hbs (fun kp=>by
    have hEd:∀ (i:Nat) (r:List AV),(E.drop off).take len=es.toA:=fun _ _=>hels.symm
    refine z0u.of_rows (z8y es xs) hzp _ t (z0l _ _ _ (eAe.1 hcb).1) (fun i r hi=>?_) (fun i r j y hi hy=>?_)
    ·rw [eAs] at hi
     split at hi
     ·rw [hels,z0w] at hi
      split at hi
      ·exact hl _ r hi
      ·cases hi
     ·exact hxr.2.1 _ r hi
    ·have helen:es.toA.length=len:=by rw [hels]; simp; omega
     have hrl:r.length=z:=by
      rw [eAs] at hi
      split at hi
      ·rw [hels,z0w] at hi
       split at hi
       ·exact hl _ r hi
       ·cases hi
      ·exact hxr.2.1 _ r hi
     have hjz:j<z:=by rw [←hrl]; exact (eAd.1 hy).1
     have hsp:=z4f c.toList cxs (L.base+off*z+len*z) (L.base+off*z+i*z+j) (by simp; omega)
     simp only at hsp⊢
     rw [eBc,hsp]
     rw [eAs] at hi
     split at hi
     ·rename_i hlt
      rw [helen] at hlt
      rw [hels,z0w,if_pos hlt] at hi
      obtain ⟨v,hv,hv1,hvr⟩:=hj _ r j y hi hy
      have:(i+1)*z≤len*z:=eAo _ hlt
      rw [eAl] at this
      rw [if_neg (by omega)]
      refine ⟨v,?_,hv1,hvr.keep kp (Rho.put_mono _ _ _ hn)⟩
      rw [eAl] at hv
      rw [show L.base+off*z+i*z+j=L.base+(off*z+i*z)+j by omega]
      simpa using hv
     ·rename_i hge
      rw [helen] at hge hi
      obtain ⟨v,hv,hv1,hvr⟩:=hxr.2.2 _ r j y hi hy
      have hlt:=(eAd.1 hv).1
      have e:i*z=len*z+(i - len)*z:=by rw [←eAl]; congr 1; omega
      rw [if_pos (by omega)]
      refine ⟨v,?_,hv1,hvr.keep kp (Rho.put_mono _ _ _ hn)⟩
      rw [show L.base+off*z+i*z+j - (L.base+off*z+len*z)=(i - len)*z+j by omega]
      exact hv)
   refine ⟨_,_,_,hrun,?_,g1,g2, .inr ⟨_,by simp; exact .inr rfl⟩⟩
   refine .slice new z 0 (len+m) none ⟨L.blk,L.base+off*z,z⟩ _ cap (Rho.put_same _ _ _) rfl (fun _=>by simp) (.inr ⟨rfl,c.size,?_,?_⟩) hfit
   ·exact hbs _ (z0n hcb)
   ·simp; omega
  ·refine grow (some id) _ len h1 h2 (z12 h3) rfl (z12 h4) ?_
   intro a' cap' hv
   cases hv
   omega
 ·
  rename_i id z' off len c
  split at he
  ·
   split at he
   ·rename_i o ho
    cases he
    simp only at hc
    obtain ⟨h1,hc⟩:=and_true hc
    obtain ⟨h2,hc⟩:=and_true hc
    obtain ⟨hge1,h3⟩:=and_true hc
    have hge1:=z12 hge1
    have hw:len+z56 std x≤c:=z12 (hq _ rfl)
    cases hs with
    |nils _ _ _ _ a hcc=>
     rcases hcc with hcc|hcc<;>cases hcc
     omega
    |slice _ _ _ _ _ L a cap hL hLz haa hcc hle=>
    rcases hcc with hcc|⟨hcc,_⟩
    rotate_left
    ·cases hcc
    cases hcc
    obtain ⟨rfl,E,hE,hoff,hels⟩:=z99 hes h2
    obtain ⟨E',hE',hrow'⟩:=x15 ho
    rw [hE] at hE'; cases hE'
    have hlo:w7b std (z0e h id)=E.length:=by
     cases hno:z0e h id<;>rw [hno] at hE<;>simp [AO.rows] at hE<;>subst hE<;>simp [w7b,std,z0k]
    have h3':off+c≤E.length:=by rw [←hlo]; exact z12 h3
    obtain ⟨a2',m,capx,cxs,rfl,hm,hmc,hxl,hxr,hxf⟩:=z8r (P:=P) hr hzp hx hxs h1
    rw [←hm] at hw hge1⊢
    obtain ⟨_,hob⟩:=hr.obj id L hL
    obtain ⟨_,cc,t,hcb,hl,hj⟩:=hob.rows hE
    rw [hLz] at hl hj
    have hcx:cxs.length=m*z:=by rw [hxr.1,hxl]
    have hmul:(off+len)*z=off*z+len*z:=eAl _ _ _
    by_cases hc0:0<c
    ·have hElast:L.base+E.length*z≤cc.size:=by
      have hlt:E.length - 1<E.length:=by omega
      have hrl:=hl _ _ (eAa hlt)
      have hy:z - 1<(E[E.length - 1]).length:=by omega
      obtain ⟨v,hv,_,_⟩:=hj _ _ _ _ (eAa hlt) (eAa hy)
      have:=(eAe.1 hv).1
      have e:E.length*z=(E.length - 1)*z+z:=by
       rw [←Nat.succ_mul]; congr 1; omega
      omega
     have hmul2:(off+len+m)*z≤E.length*z:=eAo _ (by omega)
     have hmul3:(off+len+m)*z=(off+len)*z+m*z:=eAl _ _ _
     rw [haa hc0,hLz]
     have hrun:=z9m (P:=P) (w:=w) hd hdd2 hint hz ty (hxf w rfl) hw hcb (o:=L.base+off*z) (by omega) (z89 hzp hxr)
     rw [show L.base+off*z+len*z=L.base+(off+len)*z by omega] at hrun
     have hlive:=z6q hE
     have hbs:∀ k,z0t w L.blk=some k→z0t (World.setObj w L.blk (.cells (cc.toList.take (L.base+(off+len)*z)++cxs++cc.toList.drop (L.base+(off+len)*z+cxs.length)).toArray t (0,0))) L.blk=some k:=by
      intro k hk
      rw [z0n hcb] at hk; cases hk
      rw [z0n (z0l _ _ _ (eAe.1 hcb).1)]
      congr 1
      simp; omega
     have hkp:=z1d hr hL hlive o (z6q hrow') _ hbs
     obtain ⟨r1,r2⟩:=z9z (w:=w) hzp (base:=L.base) (c:=cc) (i:=off+len) hl hj hxr (by rw [hxl]; omega) (by omega)
     refine ⟨_,_,ρ,hrun,?_,hr.set hL hlive o (z6q hrow') _ hbs ?_,Ext.set _ hr hL hlive o (z6q hrow') _ hbs, .inl rfl⟩
     ·exact .slice id z off (len+m) (some c) L _ c hL hLz (fun _=>by rw [hLz]) (.inl rfl) hw
     ·refine z0u.of_rows hrow' (by omega) _ t (z0l _ _ _ (eAe.1 hcb).1) (by rw [hLz]; exact r1) (fun i r j y hi hy=>?_)
      rw [hLz]
      obtain ⟨v,hv,hv1,hvr⟩:=r2 i r j y hi hy
      exact ⟨v,hv,hv1,hvr.keep hkp (fun _ _ h=>h)⟩
    ·omega
   ·cases he
  ·cases he
   simp only at hc
   obtain ⟨h1,hc⟩:=and_true hc
   obtain ⟨h2,hc⟩:=and_true hc
   obtain ⟨h3,h4⟩:=and_true hc
   have hw:=hq _ rfl
   refine grow none _ len h1 h2 (z12 h3) rfl (z12 h4) ?_
   intro a cap hv
   cases hs with
   |nils _ _ _ _ a hcc=>
    cases hv
    have:=z12 h3
    omega
   |slice _ _ _ _ _ L _ _ hL hLz haa hcc hle=>
    cases hv
    rcases hcc with hcc|⟨hcc,_⟩
    ·cases hcc
     have:¬ (len+z56 std x≤c):=fun hle=>by
      have:std.leN (std.add len (z56 std x)) c=true:=eBg hle
      rw [this] at hw; cases hw
     omega
    ·cases hcc
 ·cases he
end
end Go.Am
end
section
namespace Go.Am
theorem x6r (n:Int) (h0:0≤n) (h1:n≤1000000):IntKind.i64.wrap n=n:=by
 have h:n % (2 ^ 64:Int)=n:=Int.emod_eq_of_lt h0 (by omega)
 simp [IntKind.wrap,IntKind.bits,IntKind.signed,h]
 omega
theorem x0n {place:Nat→Option (Nat×Nat)}:∀ {parts:List (Nat×AV)} {cells r:List AV},y5h place cells parts=some r→r.length=cells.length
 |[],cells,r,h=>by simp [y5h] at h; rw [h]
 |(i,v)::rest,cells,r,h=>by
  simp only [y5h] at h
  split at h
  ·rename_i off size cs _ _
   cases hb:z60 cs size with
   |false=>rw [hb] at h; cases h
   |true=>
   rw [hb] at h; simp only [cond_true] at h
   split at h
   ·rename_i l hl
    rw [x0n h,(z8h hl).1]
   ·cases h
  ·cases h
section
variable {P:Program} {ρ:Rho} {h:List AO} {w:World}
theorem y2d {T:TypeId} {ti:TI} (ht:z5t P T ti) (hr:z0a P ρ h w) {new:Nat} (hn:ρ new=none) {l c:AV} {vl vc:Value} (hl:z0i ρ (z0c ρ h) w l vl) (hcv:z0i ρ (z0c ρ h) w c vc)
  {res:Res} (hs:z47 std ti new l c=some res) (hc:res.c=true):z0h P ρ h w new (Instr.makeSlice T vl vc) res:=by
 obtain ⟨d,hd,hda,hk⟩:=ht.desc
 unfold z47 at hs
 split at hs
 rotate_left
 ·cases hs
 rename_i e z eb ea ez k1 ln k2 cp hdesc
 rw [hdesc] at hk
 obtain ⟨rfl,hz,heb,_,hez,hezl⟩:=hk
 cases hb:(Nat.ble 1 z&&(Nat.ble eb 60000&&z58 (toA ez))) with
 |false=>rw [hb] at hs; cases hs
 |true=>
 rw [hb] at hs; cases hs
 simp only [eAb] at hb
 obtain ⟨hb1,hb2,hb3⟩:=hb
 have hzp:0<z:=eAf hb1
 have hebb:eb≤60000:=eAf hb2
 simp only at hc
 obtain ⟨c1,hc⟩:=and_true hc
 obtain ⟨c2,c3⟩:=and_true hc
 have c1:=z2b c1
 have c2:=z10 c2
 have c3:=z10 c3
 cases hl with|d hl=>
 cases hl
 cases hcv with|d hcv=>
 cases hcv
 obtain ⟨i,zv,hi,hib,hzv,hzl⟩:∃ i zv,P.info? e=some i∧i.bytes=eb∧i.zero=some zv∧y04 zv.cells.toList=some ez:=by
  unfold y0c at heb; unfold y21 at hez
  cases hi:P.info? e with
  |none=>simp [hi] at heb
  |some i=>
   rw [hi] at heb hez
   simp at heb hez
   cases hzq:i.zero with
   |none=>simp [hzq] at hez
   |some zv=>exact ⟨i,zv,rfl,heb,hzq,by simpa [hzq] using hez⟩
 obtain ⟨hzs,hzr⟩:=z68 hzl
 have hzsize:zv.cells.size=z:=by rw [←hezl,hzs]; simp
 have hprod:(eb:Int)*cp≤60000*1000000:=Int.mul_le_mul (by omega) c3 (by omega) (by omega)
 have hw1:=x6r ln c1 (by omega)
 have hw2:=x6r cp (by omega) c3
 have hcell:∀ k,k<cp.toNat*z→(Array.map (fun x=>zv.cells[x % zv.cells.size]!) (Array.range (cp.toNat*z)))[k]?=zv.cells[k % z]?:=by
  intro k hk
  have:k % z<zv.cells.size:=by rw [hzsize]; exact eCr _ hzp
  simp [hk,hzsize,getElem!_pos zv.cells (k % z) this]
 refine y1k hr hn (T:=e) ((Array.range (cp.toNat*z)).map (zv.cells[· % zv.cells.size]!)) (.slice new z 0 ln.toNat (some cp.toNat)) (.row (std.rep cp.toNat ez)) 0 z (.slice (some ⟨w.heap.size,0,none⟩) ln.toNat cp.toNat) ?_ ?_ ?_
 ·have hlarge:¬ ((eb:Int)*cp>2 ^ 48):=by omega
  have hcond:((cp<0||decide ((eb:Int)*cp>2 ^ 48))||decide (ln<0)||decide (ln>cp))=false:=by
   simp; omega
  unfold Instr.makeSlice
  simp only [Sem.run_bind,z0d hd,Result.andThen_ok,asInt,asIntOf,Sem.run_pure,typeInfo,run_program,hi,hib,hw1,hw2,hcond,eAi,if_false,Sem.run_ite,run_askRoom,z0v hz]
  by_cases h0:cp.toNat*z=0
  ·simp only [h0,if_true,Sem.run_pure,Result.andThen_ok,newRow,Sem.run_bind,run_newObj]
   have e0:∀ f:Nat→Value,Array.map f (Array.range 0)=#[]:=fun f=>by simp
   rw [e0,e0]; rfl
  ·simp [h0,zeroValue,typeInfo,hi,hzv,newRow]
   rfl
 ·refine ⟨hzp,_,e,z2v _ _,fun i r hi=>?_,fun i r j y hi hy=>?_⟩
  ·simp [std,eCf] at hi
   rw [←hi.2]; exact hezl
  ·simp [std,eCf] at hi
   obtain ⟨hi1,rfl⟩:=hi
   have hj:j<z:=by rw [←hezl]; exact (eAd.1 hy).1
   obtain ⟨v,hv,hrel⟩:=hzr (z0c (ρ.put new ⟨w.heap.size,0,z⟩) (z0x h new (.row (std.rep cp.toNat ez)))) (World.push w (.cells ((Array.range (cp.toNat*z)).map (zv.cells[· % zv.cells.size]!)) e)) j y hy
   have hlt:i*z+j<cp.toNat*z:=by
    have:(i+1)*z≤cp.toNat*z:=eAo _ (by omega)
    rw [eAl] at this; omega
   have hmod:(i*z+j) % z=j:=by rw [Nat.add_comm,Nat.add_mul_mod_self_right]; exact eCy hj
   refine ⟨v,?_,?_,hrel⟩
   ·simp only [eAp]
    rw [hcell _ hlt,hmod]; simpa using hv
   ·have:x95 (.d y)=true:=z61 hb3 (by rw [z03,hy]; rfl)
    exact y0t (ρ:=ρ) this (.d hrel)
 ·exact .slice new z 0 _ _ ⟨w.heap.size,0,z⟩ _ _ (Rho.put_same _ _ _) rfl (fun _=>by simp) (.inl rfl) (by omega)
theorem x6i {α:Type} {z:Nat} (hz:0<z):∀ (f:Nat) (l:List α) (es:List (List α)),x06 z f l=some es→l.length=es.length*z∧(∀ (i:Nat) (r:List α),es[i]?=some r→r.length=z)∧
  ∀ (i:Nat) (r:List α) (j:Nat),es[i]?=some r→j<z→l[i*z+j]?=r[j]?:=by
 intro f
 induction f with
 |zero=>
  intro l es h
  cases l with
  |nil=>simp [x06] at h; subst h; simp
  |cons _ _=>simp [x06] at h
 |succ f ih=>
  intro l es h
  cases l with
  |nil=>simp [x06] at h; subst h; simp
  |cons a l=>
   simp only [x06] at h
   split at h
   ·rename_i x hp
    cases hq:x06 z f ((a::l).drop z) with
    |none=>rw [hq] at h; cases h
    |some q=>
    rw [hq] at h; simp at h; subst h
    obtain ⟨p1,p2⟩:=z2g hp
    obtain ⟨q1,q2,q3⟩:=ih _ _ hq
    have hle:z≤(a::l).length:=by
     have:=p2 (z - 1) (by omega)
     rw [eAa (show z - 1<x.length by omega)] at this
     have:=(eAd.1 this).1
     omega
    refine ⟨by simp only [eCx] at q1; simp only [eBi] at q1 hle⊢; rw [eAl]; omega,fun i r hi=>?_,fun i r j hi hj=>?_⟩
    ·cases i with
     |zero=>simp at hi; subst hi; exact p1
     |succ i=>exact q2 i r (by simpa using hi)
    ·cases i with
     |zero=>simp at hi; subst hi; have:=p2 j hj; simpa using this
     |succ i=>
      have:=q3 i r j (by simpa using hi) hj
      rw [eBp] at this
      rw [←this]; congr 1; rw [eAl]; omega
   ·cases h
theorem x3e {α:Type} (l:List α) (hl:0<l.length):∀ (n j:Nat),j<n*l.length→(w0v n l)[j]?=l[j % l.length]?
 |0,j,h=>by simp at h
 |n+1,j,h=>by
  simp only [w0v]
  by_cases hj:j<l.length
  ·rw [eBz hj,eCy hj]
  ·rw [eCv (by omega),x3e l hl n (j - l.length) (by rw [eAl] at h; omega)]
   congr 1
   rw [Nat.mod_eq_sub_mod (a:=j) (by omega)]
theorem y3t {α:Type} (l:List α):∀ n,(w0v n l).length=n*l.length
 |0=>by simp [w0v]
 |n+1=>by simp [w0v,y3t l n,eAl]; omega
theorem y59 (es:List (List AV)):(x72 es).rows=some es:=by
 unfold x72
 split
 ·rename_i l hl
  have:∀ (es:List (List AV)) (l:List (List D)),y5o es=some l→z4c l=es:=by
   intro es
   induction es with
   |nil=>intro l h; simp [y5o] at h; subst h; rfl
   |cons x r ih=>
    intro l h
    simp only [y5o] at h
    split at h
    ·rename_i d q h1 h2; cases h; simp [z4c,ih _ h2,z1i h1]
    ·cases h
  simp [AO.rows,this _ _ hl]
 ·rfl
theorem z3h {T:TypeId} {ti:TI} (ht:z5t P T ti) (hr:z0a P ρ h w) {new:Nat} (hn:ρ new=none) {len:Nat} {parts:List (Nat×AV)} {pv:Array (Nat×Value)}
  (hp:y2z ρ (z0c ρ h) w parts pv.toList) {res:Res} (hs:z1z ti new len parts=some res):z0h P ρ h w new (Instr.buildSlice T len pv) res∧∃ (rv:Array Value) (e:TypeId) (z eb:Nat) (ea:Bool) (ez:List D),ti.desc= .slc e z eb ea ez∧0<z∧(Instr.buildSlice T len pv).run P w= .ok (.slice (some ⟨w.heap.size,0,none⟩) len len) (World.push w (.cells rv e))∧
   ∀ i l,res.u=[(i, .row l)]→l.length=len∧z15 ρ (z0c ρ h) w z (z4c l) rv.toList:=by
 obtain ⟨d,hd,hda,hk⟩:=ht.desc
 unfold z1z at hs
 split at hs
 rotate_left
 ·cases hs
 rename_i e z eb ea ez hdesc
 rw [hdesc] at hk
 obtain ⟨rfl,hz,heb,_,hez,hezl⟩:=hk
 cases hb:(Nat.ble 1 z&&Nat.ble (len*z) 1000000) with
 |false=>rw [hb] at hs; cases hs
 |true=>
 rw [hb] at hs; simp only [cond_true] at hs
 simp only [eAb] at hb
 have hzp:0<z:=eAf hb.1
 have hlz:len*z≤1000000:=eAf hb.2
 split at hs
 rotate_left
 ·cases hs
 rename_i l hl
 cases hlv:z58 l with
 |false=>rw [hlv] at hs; cases hs
 |true=>
 rw [hlv] at hs; simp only [cond_true] at hs
 split at hs
 rotate_left
 ·cases hs
 rename_i es hes
 cases hs
 obtain ⟨i,zv,hi,hzv,hzl⟩:∃ i zv,P.info? e=some i∧i.zero=some zv∧y04 zv.cells.toList=some ez:=by
  unfold y21 at hez
  cases hi:P.info? e with
  |none=>simp [hi] at hez
  |some i=>
   rw [hi] at hez
   simp at hez
   cases hzq:i.zero with
   |none=>simp [hzq] at hez
   |some zv=>exact ⟨i,zv,rfl,hzq,by simpa [hzq] using hez⟩
 obtain ⟨hzs,hzr⟩:=z68 hzl
 have hzsize:zv.cells.size=z:=by rw [←hezl,hzs]; simp
 have hzero:∃ zc:Array Value,(if len*z=0 then (Pure.pure #[]:Sem (Array Value)) else (do pure (←zeroValue e).cells)).run P w= .ok zc w∧(len*z≠0→zc=zv.cells):=by
  by_cases h0:len*z=0
  ·exact ⟨#[],by simp [h0],fun h=>absurd h0 h⟩
  ·exact ⟨zv.cells,by simp [h0,zeroValue,typeInfo,hi,hzv],fun _=>rfl⟩
 obtain ⟨zc,hzc,hzc2⟩:=hzero
 have hrl:(toA (w0v len ez)).length=len*z:=by rw [z0o,y3t,hezl]
 obtain ⟨rv,g1,g2,g3⟩:=y2w (ρ:=ρ) (w:=w) (O:=z0c ρ h) _ parts pv.toList (toA (w0v len ez)) l ((Array.range (len*z)).map (zc[· % zc.size]!)) hl hp.1 hp.2 (by rw [hrl]; simp) (fun j x hx=>by
  have hj:j<len*z:=by rw [←hrl]; exact (eAd.1 hx).1
  have hne:len*z≠0:=by omega
  rw [hzc2 hne]
  rw [z03,x3e ez (by omega) len j (by rw [hezl]; exact hj),hezl] at hx
  have hlt:j % z<zv.cells.size:=by rw [hzsize]; exact eCr _ hzp
  cases hq:ez[j % z]? with
  |none=>simp [hq] at hx
  |some d=>
   simp [hq] at hx; subst hx
   obtain ⟨v,hv,hrel⟩:=hzr (z0c ρ h) w _ d hq
   refine ⟨v,?_, .d hrel⟩
   simp [hj,hzsize]
   rw [getElem!_pos zv.cells (j % z) hlt]
   have:zv.cells[j % z]?=some v:=by simpa using hv
   rw [eAm hlt] at this; cases this; rfl)
 obtain ⟨k1,k2,k3⟩:=x6i hzp _ _ _ hes
 have heslen:es.length=len:=by
  have h1:l.length=len*z:=by
   rw [←g2]
   have:=(x0n hl)
   rw [g2,this,hrl]
  rw [h1] at k1
  exact (Nat.eq_of_mul_eq_mul_right hzp k1).symm
 have hrun:(Instr.buildSlice T len pv).run P w= .ok (.slice (some ⟨w.heap.size,0,none⟩) len len) (World.push w (.cells rv e)):=by
  unfold Instr.buildSlice
  simp only [Sem.run_bind,z0d hd,Result.andThen_ok,z0v hz,Sem.run_pure,Sem.run_ite,show ¬ (len*z>2 ^ 24) by omega,if_false]
  by_cases h0:len*z=0
  ·simp only [h0,if_true,Sem.run_pure] at hzc
   cases hzc
   simp only [h0,if_true] at g1⊢
   simp only [g1,newRow,Sem.run_bind,run_newObj,Result.andThen_ok,Sem.run_pure]
   rfl
  ·have hz2:=hzc2 h0
   subst hz2
   simp only [h0,if_false,zeroValue,typeInfo,Sem.run_bind,run_program,Result.andThen_ok,hi,Sem.run_pure,hzv,g1,newRow,run_newObj]
   rfl
 refine ⟨y1k hr hn (T:=e) rv (.slice new z 0 len (some len)) (x72 es) 0 z (.slice (some ⟨w.heap.size,0,none⟩) len len) hrun ?_ ?_,rv,e,z,eb,ea,ez,hdesc,hzp,hrun,fun i0 l0 hu=>?_⟩
 ·refine z0u.of_rows (y59 es) hzp rv e (z2v _ _) k2 (fun i r j y hi hy=>?_)
  have hj:j<z:=by rw [←k2 i r hi]; exact (eAd.1 hy).1
  have hly:l[i*z+j]?=some y:=by rw [k3 i r j hi hj]; exact hy
  obtain ⟨v,hv,hrel⟩:=g3 _ y hly
  exact ⟨v,by simpa using hv,y0t (z61 hlv hly) hrel,hrel.keep (z5n hr hn _ _ _ rfl) (Rho.put_mono _ _ _ hn)⟩
 ·exact .slice new z 0 _ _ ⟨w.heap.size,0,z⟩ _ _ (Rho.put_same _ _ _) rfl (fun _=>by simp) (.inl rfl) (eAk _)
 ·have he:es=z4c l0:=by
   have h1:=y59 es
   have hu2:x72 es= .row l0:=by
    have:=congrArg (fun x:List (Nat×AO)=>x.head?.map (·.2)) hu
    simpa using this
   rw [hu2] at h1
   cases h1; rfl
  subst he
  rw [z0k] at heslen
  refine ⟨heslen,?_,k2,fun i r j y hi hy=>?_⟩
  ·rw [z0k,heslen,eBa,g2,k1,z0k,heslen]
  ·have hj:j<z:=by rw [←k2 i r hi]; exact (eAd.1 hy).1
   have hly:l[i*z+j]?=some y:=by rw [k3 i r j hi hj]; exact hy
   obtain ⟨v,hv,hrel⟩:=g3 _ y hly
   exact ⟨v,by simpa using hv,y0t (z61 hlv hly) hrel,hrel⟩
theorem y1e {T:TypeId} {ti:TI} (ht:z5t P T ti) (hr:z0a P ρ h w) {new:Nat} (hn:ρ new=none) {len:Nat} {parts:List (Nat×AV)} {pv:Array (Nat×Value)}
  (hp:y2z ρ (z0c ρ h) w parts pv.toList) {r:List D} {res:Res} (hs:z3v ti new len parts r=some res):z0h P ρ h w new (Instr.buildSlice T len pv) res:=by
 unfold z3v at hs
 split at hs
 ·exact (z3h ht hr hn hp hs).1
 ·split at hs
  ·split at hs
   ·rename_i res0 _ z _ _ _ h0 _
    cases hs
    obtain ⟨_,rv,e,_,_,_,_,_,_,hrun,_⟩:=z3h ht hr hn hp h0
    exact ⟨_,_,ρ,hrun, .d (.lnil _ _ _ _ (fun _=>rfl)),hr.push0 _,Ext.push0 _ hr _, .inl rfl⟩
   ·cases hs
  ·rename_i n
   split at hs
   ·rename_i res0 h0
    obtain ⟨hro,rv,e,z,eb,ea,ez,hdesc,hzp,hrun,hrows⟩:=z3h ht hr hn hp h0
    split at hs
    ·rename_i i l e' z' eb' ea' ez' hu hd'
     rw [hdesc] at hd'
     cases hd'
     cases hs
     obtain ⟨hl,hrr⟩:=hrows i l hu
     have hne:l≠[]:=by intro e0; rw [e0] at hl; simp at hl
     have:=w12 hr (new:=new) hzp (es:=l) (cs:=rv.toList) hrr hne e (rv:=rv) rfl (by rw [hl]; exact hrun)
     exact this
    ·cases hs; exact hro
   ·cases hs
theorem x62 (hr:z0a P ρ h w) {new:Nat} {op:UnOp} {x:AV} {v:Value} (hx:z0i ρ (z0c ρ h) w x v) {res:Res} (hs:x26 std op x=some res):z0h P ρ h w new (Op.unary op v) res:=by
 unfold x26 at hs
 split at hs
 ·rename_i k a
  cases hx with|d hx=>
  cases hx
  split at hs
  ·cases hs
   exact z0h.pure hr (by simp [Op.unary,Op.intArith,std,x1z]) (.d (.int _ _))
  ·cases hs
   exact z0h.pure hr (by simp [Op.unary,Op.intBits,std,x1z]) (.d (.int _ _))
  ·cases hs
 ·rename_i b
  cases hx with|d hx=>
  cases hx
  split at hs
  ·cases hs; exact z0h.pure hr (by simp [Op.unary]) (.d (.bool _))
  ·cases hs
 ·cases hs
theorem y47 {S T:TypeId} {ts tt:TI} (hS:z5t P S ts) (hT:z5t P T tt) (hr:z0a P ρ h w) {new:Nat} {x:AV} {v:Value} (hx:z0i ρ (z0c ρ h) w x v) {res:Res} (hs:z7f std ts tt x=some res):
  z0h P ρ h w new (convert S T v) res:=by
 obtain ⟨d,hd,_,hk⟩:=hS.desc
 obtain ⟨d2,hd2,_,hk2⟩:=hT.desc
 unfold z7f at hs
 split at hs
 ·split at hs
  ·rename_i h1 h2
   rw [h1] at hk; rw [h2] at hk2
   cases hk; cases hk2
   cases hx with|d hx=>
   cases hx; cases hs
   exact z0h.pure hr (by simp [convert,z0d hd,z0d hd2,Conv.intToInt,std]) (.d (.int _ _))
  ·rename_i h1 h2
   rw [h1] at hk; rw [h2] at hk2
   cases hk; cases hk2
   cases hx with|d hx=>
   cases hx; cases hs
   exact z0h.pure hr (by simp [convert,z0d hd,z0d hd2,Conv.intToString,std]) (.d (.str _))
  ·cases hs
 ·split at hs
  ·rename_i h1 h2
   rw [h1] at hk; rw [h2] at hk2
   cases hk; cases hk2
   cases hx with|d hx=>
   cases hx; cases hs
   exact z0h.pure hr (by simp [convert,z0d hd,z0d hd2]) (.d (.str _))
  ·cases hs
 ·cases hs
theorem x09:∀ {es:List (List D)} {ns:List Int},x41 es=some ns→es=ns.map fun n=>[.int .u8 n]
 |[],ns,h=>by cases h; rfl
 |r::l,ns,h=>by
  unfold x41 at h
  split at h
  ·rename_i heq; cases heq
  ·rename_i n l' heq
   cases heq
   split at h
   ·rename_i r' hr
    cases h
    rw [x09 hr]; rfl
   ·cases h
  ·cases h
theorem y9h {T:TypeId→Option TI} (hT:y0f P T) {s t:TypeId} {ts tt:TI} (h1:z5t P s ts) (h2:z5t P t tt) (hr:z0a P ρ h w) {new:Nat} {x:AV} {v:Value} (hx:z0i ρ (z0c ρ h) w x v) {res:Res} (hs:z5i std T h ts tt x=some res) (hc:res.c=true):
  z0h P ρ h w new (convert s t v) res:=by
 obtain ⟨d,hd,_,hk⟩:=h1.desc
 obtain ⟨d2,hd2,_,hk2⟩:=h2.desc
 unfold z5i at hs
 split at hs
 ·rename_i e z eb ea ez g1 g2
  rw [g1] at hk; rw [g2] at hk2
  obtain ⟨rfl,_⟩:=hk
  cases hk2
  split at hs
  ·rename_i te hte
   cases hu:v0s te.desc with
   |false=>rw [hu] at hs; cases hs
   |true=>
   rw [hu] at hs
   simp only [cond_true] at hs
   obtain ⟨d3,hd3,_,hk3⟩:=(hT _ _ hte).desc
   have hu8:d3= .int .u8:=by
    unfold v0s at hu
    split at hu
    ·rename_i heq; rw [heq] at hk3; exact hk3
    ·cases hu
   subst hu8
   split at hs
   ·rename_i c es hel
    split at hs
    ·rename_i ns hns
     cases hs
     obtain ⟨a,n,cap,cs,rfl,hn,hle,hlen,hrows,hrun⟩:=z8r hr (by omega) hx hel hc
     have hes:=x09 hns
     have hlen':es.length=n:=by simpa [Els.toA,z0k] using hlen
     have hcs:cs=ns.map (Value.int .u8):=by
      apply eBd
      intro i
      rw [eAg]
      have hl:cs.length=n:=by rw [hrows.1,hlen,eBx]
      have hnl:ns.length=n:=by rw [←hlen',hes,eBt]
      by_cases hi:i<n
      ·obtain ⟨m,hni⟩:∃ m,ns[i]?=some m:=⟨_,eAa (by omega)⟩
       have hei:es[i]?=some [.int .u8 m]:=by rw [hes,eAg,hni]; rfl
       obtain ⟨u,hu1,_,hur⟩:=hrows.2.2 i [.d (.int .u8 m)] 0 (.d (.int .u8 m)) (by
        show (z4c es)[i]?=_
        rw [z18,hei]; rfl) rfl
       rw [hni]
       rw [eBx,eAt] at hu1
       rw [hu1]
       cases hur with|d hur=>cases hur; rfl
      ·rw [eCt (by omega),eCt (by omega)]; rfl
     have hrun:=hrun w rfl
     refine z0h.pure hr ?_ (.d (.str _))
     rw [run_convert_bytes_string w s t e a n cap hd hd3 hd2]
     cases a with
     |none=>
      have hn0:cs=[]:=by
       have:=hrun
       simp only [Builtin.firstCells,Sem.run_pure,Result.ok.injEq,and_true] at this
       have:=congrArg Array.toList this.1
       simpa using this.symm
      have:ns=[]:=by rw [hn0] at hcs; simpa using hcs.symm
      subst this
      simp [Conv.bytesToString,w6o]
     |some a=>
      refine run_bytesToString w a n cap ns ?_
      rw [←hcs]
      simpa [Builtin.firstCells] using hrun
    ·cases hs
   ·cases hs
  ·cases hs
 ·cases hs
theorem w4s {T:TypeId} {ti:TI} (ht:z5t P T ti) (hr:z0a P ρ h w) {new:Nat} {ty:TypeId} {x:AV} {v:Value} (hx:z0i ρ (z0c ρ h) w x v) {res:Res} (hs:w06 std ti h x=some res):
  z0h P ρ h w new (Builtin.len_ #[T] ty #[v]) res:=by
 obtain ⟨d,hd,_,hk⟩:=ht.desc
 have sl:∀ (e:TypeId) (a:Option Addr) (n c:Nat),d= .slice e→v= .slice a n c→(Builtin.len_ #[T] ty #[v]).run P w= .ok (.int .i64 n) w:=by
  intro e a n c h1 h2; subst h1; subst h2
  simp [Builtin.len_,z0d hd,goInt]
 unfold w06 at hs
 split at hs
 ·split at hs
  ·rename_i h1
   rw [h1] at hk; obtain ⟨rfl,_⟩:=hk
   cases hs
   cases hx with|d hx=>
   cases hx with
   |lnil=>exact z0h.pure hr (sl _ _ _ _ rfl rfl) (.d (.int _ _))
   |list=>exact z0h.pure hr (sl _ _ _ _ rfl rfl) (.d (.int _ _))
  ·cases hs
 ·split at hs
  ·rename_i h1
   rw [h1] at hk; obtain ⟨rfl,_⟩:=hk
   cases hs
   cases hx with
   |nils=>exact z0h.pure hr (sl _ _ _ _ rfl rfl) (.d (.int _ _))
   |slice=>exact z0h.pure hr (sl _ _ _ _ rfl rfl) (.d (.int _ _))
  ·cases hs
 ·split at hs
  ·rename_i h1
   rw [h1] at hk; cases hk
   cases hs
   cases hx with|d hx=>
   cases hx
   exact z0h.pure hr (by simp [Builtin.len_,z0d hd,goInt,std]) (.d (.int _ _))
  ·cases hs
 ·split at hs
  ·rename_i h1
   rw [h1] at hk; obtain ⟨e,rfl,_⟩:=hk
   cases hs
   exact z0h.pure hr (by simp [Builtin.len_,z0d hd,goInt,std]) (.d (.int _ _))
  ·cases hs
 ·split at hs
  ·rename_i h1
   rw [h1] at hk; obtain ⟨e,e',rfl,he,_⟩:=hk
   cases hs
   exact z0h.pure hr (by simp [Builtin.len_,z0d hd,z0d he,goInt,std]) (.d (.int _ _))
  ·cases hs
 ·split at hs
  ·rename_i h1
   rw [h1] at hk; obtain ⟨k,e,rfl,_⟩:=hk
   cases hs
   cases hx with|d hx=>
   cases hx
   exact z0h.pure hr (by simp [Builtin.len_,z0d hd,goInt]) (.d (.int _ _))
  ·cases hs
 ·split at hs
  ·rename_i h1 h2
   rw [h1] at hk; obtain ⟨k,e,rfl,_⟩:=hk
   cases hs
   cases hx with
   |map _ L hL=>
    obtain ⟨_,ho⟩:=hr.obj _ L hL
    rw [h2] at ho
    obtain ⟨en,clk,hb,hsz,_⟩:=ho
    exact z0h.pure hr (by simp [Builtin.len_,z0d hd,goInt,getObj,Sem.run,hb,hsz.1,std]) (.d (.int _ _))
  ·cases hs
 ·cases hs
end
end Go.Am
end
section
namespace Go.Am
section
variable {P:Program} {ρ:Rho} {h:List AO} {w:World}
def y19 (ρ:Rho) (O:Nat→Prop) (w:World):Option AV→Option Value→Prop
 |none,none=>True
 |some x,some v=>z0i ρ O w x v
 |_,_=>False
theorem z8j {O:Nat→Prop} {x:Option AV} {v:Option Value} (hx:y19 ρ O w x v) {n:Option Int} (h:w25 x=some n):match n with|none=>v=none|some i=>∃ k,v=some (.int k i):=by
 unfold w25 at h
 split at h
 ·cases h; cases v with
  |none=>rfl
  |some _=>exact hx.elim
 ·cases h; cases v with
  |none=>exact hx.elim
  |some v=>cases hx with|d hx=>cases hx; exact ⟨_,rfl⟩
 ·cases h
theorem z6p (k:IntKind) (i:Int) (y:Nat) (code:BoundsCode) (h0:0≤i) (h1:i≤y):(Instr.sliceBound (.int k i) y code).run P w= .ok i.toNat w:=by
 simp [Instr.sliceBound,asIntOf,h0,h1]
theorem z3p {O:Nat→Prop} {lo hi mx:Option AV} {vl vh vm:Option Value} (hl:y19 ρ O w lo vl) (hh:y19 ρ O w hi vh) (hm:y19 ρ O w mx vm) {l h m:Option Int} (el:w25 lo=some l) (eh:w25 hi=some h) (em:w25 mx=some m)
  (isSlice:Bool) (len cap:Nat) (L H M:Int) (eL:L=z3c l 0) (eH:H=z3c h len) (eM:M=z3c m cap)
  (hmh:m≠none→h≠none) (h0:0≤L) (h1:L≤H) (h2:H≤M) (h3:M≤cap) (hcl:(len:Int)≤cap):
  (Instr.sliceBounds isSlice len cap vl vh vm).run P w= .ok (L.toNat,H.toNat,M.toNat) w:=by
 have rl:=z8j hl el
 have rh:=z8j hh eh
 have rm:=z8j hm em
 unfold z3c at eL eH eM
 unfold Instr.sliceBounds
 cases m with
 |none=>
  simp at rm; subst rm
  simp only at eM; subst eM
  cases h with
  |none=>
   simp at rh; subst rh
   simp only at eH; subst eH
   cases l with
   |none=>simp at rl; subst rl; simp only at eL; subst eL; simp
   |some l=>
    obtain ⟨k,rfl⟩:=rl; simp only at eL; subst eL
    simp [z6p k L len _ h0 h1]
  |some hh=>
   obtain ⟨k,rfl⟩:=rh; simp only at eH; subst eH
   have hb:=z6p (P:=P) (w:=w) k H cap (if isSlice then .sliceAcap else .sliceAlen) (by omega) h2
   cases l with
   |none=>simp at rl; subst rl; simp only at eL; subst eL; simp [hb]
   |some l=>
    obtain ⟨k2,rfl⟩:=rl; simp only at eL; subst eL
    simp [hb,z6p k2 L H.toNat _ h0 (by omega)]
 |some mm=>
  obtain ⟨k,rfl⟩:=rm; simp only at eM; subst eM
  have hbm:=z6p (P:=P) (w:=w) k M cap (if isSlice then .slice3Acap else .slice3Alen) (by omega) h3
  cases h with
  |none=>exact absurd rfl (hmh (by simp))
  |some hh=>
   obtain ⟨k2,rfl⟩:=rh; simp only at eH; subst eH
   have hb:=z6p (P:=P) (w:=w) k2 H M.toNat .slice3B (by omega) (by omega)
   cases l with
   |none=>simp at rl; subst rl; simp only at eL; subst eL; simp [hbm,hb]
   |some l=>
    obtain ⟨k3,rfl⟩:=rl; simp only at eL; subst eL
    simp [hbm,hb,z6p k3 L H.toNat _ h0 (by omega)]
theorem z4g {T:TypeId} {e:TypeId} {z:Nat} (hd:P.underlying T=some (.slice e)) (hz:z78 P e=some z) {vl vh vm:Option Value} {a:Option Addr} {len cap l h m:Nat}
  (hb:(Instr.sliceBounds true len cap vl vh vm).run P w= .ok (l,h,m) w):(Instr.sliceAt T (.slice a len cap) vl vh vm).run P w= .ok (.slice (if m=l then a else a.map (·.add (l*z))) (h - l) (m - l)) w:=by
 simp [Instr.sliceAt,Instr.slice,z0d hd,hb,z0v hz]
theorem w5v {O : Nat → Prop} {full f' : Bool} {z : Nat} {es : List (List D)} {a : Option Addr} {n c : Nat} (hx : z02 O w (.list full z es) (.slice a n c)) (L H M : Nat) (h1 : L ≤ H) (h2 : H ≤ M) (h3 : H ≤ es.length) (h4 : M ≤ c) (hf : f' = true → M = H) :
    n = es.length ∧ n ≤ c ∧ (full = true → c = n) ∧ z02 O w (.list f' z ((es.drop L).take (H - L))) (.slice (if M = L then a else a.map (·.add (L * z))) (H - L) (M - L)) := by
  cases hx with
  | lnil _ _ _ _ hcap =>
    refine ⟨rfl, eAv _, hcap, ?_⟩
    simp at h3
    have e : H - L = 0 := by omega
    rw [e]
    simp
    exact .lnil _ _ _ _ (fun h => by have := hf h; omega)
  | list _ _ b o z c hz hne hO hlc hfull hsz cell h1c hcell hh =>
    refine ⟨rfl, hlc, hfull, ?_⟩
    have hlen : ((es.drop L).take (H - L)).length = H - L := by simp; omega
    by_cases hHL : H = L
    · have e : H - L = 0 := by omega
      rw [e]; simp
      exact .lnil _ _ _ _ (fun h => by have := hf h; omega)
    · rw [if_neg (by omega)]
      have hget : ∀ i, ((es.drop L).take (H - L))[i]? = if i < H - L then es[L + i]? else none := fun i => z0w es L (H - L) i
      have := z02.list (O := O) (w := w) f' ((es.drop L).take (H - L)) b (o + L * z) z (M - L) hz (by intro e; rw [e] at hlen; simp at hlen; omega) hO (by rw [hlen]; omega) (fun h => by have := hf h; rw [hlen]; omega)
        (fun i r hi => by rw [hget] at hi; split at hi
                          · exact hsz _ r hi
                          · cases hi) (fun k => cell (L * z + k)) (fun k hk => by
          rw [hlen] at hk
          refine h1c _ ?_
          have : L * z + (H - L) * z ≤ es.length * z := by rw [← eAl]; exact eAo _ (by omega)
          omega) (fun k hk => by
          rw [hlen] at hk
          rw [eAy]
          refine hcell _ ?_
          have : L * z + (H - L) * z ≤ es.length * z := by rw [← eAl]; exact eAo _ (by omega)
          omega) (fun i r j d hi hj => by
          rw [hget] at hi
          split at hi
          · have := hh _ r j d hi hj
            rw [eAl, eAy] at this; exact this
          · cases hi)
      rw [hlen] at this
      simpa [z39] using this
theorem y9d {T : TypeId} {ti : TI} (ht : z5t P T ti) (hr : z0a P ρ h w) {new : Nat} {x : AV} {v : Value} (hx : z0i ρ (z0c ρ h) w x v) {lo hi mx : Option AV} {vl vh vm : Option Value}
    (hl : y19 ρ (z0c ρ h) w lo vl) (hh : y19 ρ (z0c ρ h) w hi vh) (hm : y19 ρ (z0c ρ h) w mx vm) {r : List D} {ra : List AV} (hrow : (z3f h x).ok false r ra) {res : Res} (hs : z5h std ti h r x lo hi mx = some res) (hc : res.c = true) :
    z0h P ρ h w new (Instr.sliceAt T v vl vh vm) res := by
  obtain ⟨d, hd, _, hk⟩ := ht.desc
  unfold z5h at hs
  split at hs
  rotate_left
  · cases hs
  rename_i l hi' m el eh em
  split at hs
  ·
    rename_i full z es
    split at hs
    · rename_i e z' eb ea ez hdesc
      rw [hdesc] at hk
      obtain ⟨rfl, hz, _⟩ := hk
      cases hb : Nat.beq z z' with
      | false => rw [hb] at hs; cases hs
      | true =>
      rw [hb] at hs; simp only [cond_true] at hs
      have hzz := eAc hb
      subst hzz
      cases hx with | d hx =>
      obtain ⟨a, n, c, rfl⟩ : ∃ a n c, v = .slice a n c := by cases hx <;> exact ⟨_, _, _, rfl⟩
      obtain ⟨hn, hnc, hfull, _⟩ := w5v (f' := false) hx 0 0 0 (by omega) (by omega) (by omega) (by omega) (by simp)
      split at hs
      · cases hs
        simp only at hc
        obtain ⟨c1, hc⟩ := and_true hc
        obtain ⟨c2, c3⟩ := and_true hc
        have c1 := z2b c1
        have c2 : z3c l 0 ≤ z3c hi' ((es.length : Nat) : Int) := z10 c2
        have c3 : z3c hi' ((es.length : Nat) : Int) ≤ ((es.length : Nat) : Int) := z10 c3
        have hbd := z3p (P := P) (w := w) hl hh hm el eh em true n c (z3c l 0) (z3c hi' ((es.length : Nat) : Int)) c rfl (by rw [hn]) rfl (by simp) c1 c2 (by omega) (by omega) (by omega)
        obtain ⟨_, _, _, hD⟩ := w5v (f' := std.and full (std.cmp .eql (z3c hi' (std.ofNat (std.len es))) (std.ofNat (std.len es)))) hx _ _ c
          (show (z3c l 0).toNat ≤ (z3c hi' ((es.length : Nat) : Int)).toNat by
            omega) (by have := c3; omega) (by have := c3; omega) (eAk _) (fun hf => by
            obtain ⟨f1, f2⟩ := and_true hf
            have f2 : z3c hi' ((es.length : Nat) : Int) = ((es.length : Nat) : Int) := by simpa [std, z3o] using f2
            have := hfull f1
            rw [f2]; simp; omega)
        exact z0h.pure hr (z4g hd hz hbd) (.d hD)
      · rename_i mm
        split at hs
        · rename_i hh'
          cases hs
          simp only at hc
          obtain ⟨c1, hc⟩ := and_true hc
          obtain ⟨c2, hc⟩ := and_true hc
          obtain ⟨c3, c4⟩ := and_true hc
          have c1 := z2b c1
          have c2 := z10 c2
          have c3 := z10 c3
          have c4 : mm ≤ ((es.length : Nat) : Int) := z10 c4
          have hbd := z3p (P := P) (w := w) hl hh hm el eh em true n c (z3c l 0) hh' mm rfl rfl rfl (by simp) c1 c2 c3 (by omega) (by omega)
          obtain ⟨_, _, _, hD⟩ := w5v (f' := std.cmp .eql hh' mm) hx _ hh'.toNat mm.toNat (show (z3c l 0).toNat ≤ hh'.toNat by omega) (by omega) (by omega) (by omega) (fun hf => by
            have : hh' = mm := by simpa [std, z3o] using hf
            rw [this])
          exact z0h.pure hr (z4g hd hz hbd) (.d hD)
        · cases hs
    · cases hs
  ·
    rename_i id z off len cap
    split at hs
    · rename_i e z' eb ea ez hdesc
      rw [hdesc] at hk
      obtain ⟨rfl, hz, _⟩ := hk
      cases hb : Nat.beq z z' with
      | false => rw [hb] at hs; cases hs
      | true =>
      rw [hb] at hs; simp only [cond_true] at hs
      have hzz := eAc hb
      subst hzz
      cases hx with
      | nils _ _ _ _ a hcc =>
        have keyn : ∀ (L H M : Nat) (cap' : Option Nat), L ≤ H → H ≤ 0 → M ≤ 0 → (cap' = none ∨ cap' = some 0) →
            z0i ρ (z0c ρ h) w (.slice id z (off + L) (H - L) cap') (.slice (if M = L then a else a.map (·.add (L * z))) (H - L) (M - L)) := by
          intro L H M cap' h1 h2 h3 h4
          obtain rfl : L = 0 := by omega
          obtain rfl : H = 0 := by omega
          obtain rfl : M = 0 := by omega
          exact .nils _ _ _ _ _ h4
        split at hs
        · cases hs
          simp only at hc
          obtain ⟨c1, hc⟩ := and_true hc
          obtain ⟨c2, c3⟩ := and_true hc
          have c1 := z2b c1
          have c2 : z3c l 0 ≤ z3c hi' ((0 : Nat) : Int) := z10 c2
          have c3 : z3c hi' ((0 : Nat) : Int) ≤ ((0 : Nat) : Int) := z10 c3
          have hbd := z3p (P := P) (w := w) hl hh hm el eh em true 0 0 (z3c l 0) (z3c hi' ((0 : Nat) : Int)) ((0 : Nat) : Int) rfl rfl rfl (by simp) c1 c2 (by omega) (by omega) (by omega)
          refine z0h.pure hr (z4g hd hz hbd) (keyn (z3c l 0).toNat (z3c hi' ((0 : Nat) : Int)).toNat _ _ (by omega) (by omega) (by simp) ?_)
          have e0 : (z3c l 0).toNat = 0 := by omega
          rcases hcc with hcc | hcc
          · subst hcc; exact .inl rfl
          · subst hcc; exact .inr (by simp [w3h, std])
        · rename_i mm
          split at hs
          · rename_i hh'
            cases hs
            simp only at hc
            obtain ⟨c1, hc⟩ := and_true hc
            obtain ⟨c2, hc⟩ := and_true hc
            obtain ⟨c3, c4⟩ := and_true hc
            have c1 := z2b c1
            have c2 := z10 c2
            have c3 := z10 c3
            have c4 : mm ≤ ((0 : Nat) : Int) := z10 c4
            have hbd := z3p (P := P) (w := w) hl hh hm el eh em true 0 0 (z3c l 0) hh' mm rfl rfl rfl (by simp) c1 c2 c3 (by omega) (by omega)
            refine z0h.pure hr (z4g hd hz hbd) (keyn (z3c l 0).toNat hh'.toNat mm.toNat _ (by omega) (by omega) (by omega) (.inr ?_))
            show some (mm.toNat - (z3c l 0).toNat) = some 0
            congr 1; omega
          · cases hs
      | slice _ _ _ _ _ Lc a c hL hLz haa hcc hle =>
      have key : ∀ (L H M : Nat) (cap' : Option Nat), L ≤ H → H ≤ M → M ≤ c → (cap' = some (M - L) ∨ (cap' = none ∧ M = c ∧ cap = none)) →
          z0i ρ (z0c ρ h) w (.slice id z (off + L) (H - L) cap') (.slice (if M = L then a else a.map (·.add (L * z))) (H - L) (M - L)) := by
        intro L H M cap' h1 h2 h3 h4
        refine .slice id z _ _ _ Lc _ _ hL hLz (fun hpos => ?_) ?_ (by omega)
        · rw [if_neg (by omega), haa (by omega)]
          simp [z39, hLz, eAl, eAy]
        · rcases h4 with h4 | ⟨h4, rfl, hcn⟩
          · exact .inl h4
          · rcases hcc with hcc | ⟨_, nb, hnb, hroom⟩
            · rw [hcn] at hcc; cases hcc
            · exact .inr ⟨h4, nb, hnb, by rw [show off + L + (M - L) = off + M by omega]; exact hroom⟩
      split at hs
      · cases hs
        simp only at hc
        obtain ⟨c1, hc⟩ := and_true hc
        obtain ⟨c2, c3⟩ := and_true hc
        have c1 := z2b c1
        have c2 : z3c l 0 ≤ z3c hi' ((len : Nat) : Int) := z10 c2
        have c3 : z3c hi' ((len : Nat) : Int) ≤ ((len : Nat) : Int) := z10 c3
        have hbd := z3p (P := P) (w := w) hl hh hm el eh em true len c (z3c l 0) (z3c hi' ((len : Nat) : Int)) c rfl rfl rfl (by simp) c1 c2 (by omega) (by omega) (by omega)
        refine z0h.pure hr (z4g hd hz hbd) (key (z3c l 0).toNat (z3c hi' ((len : Nat) : Int)).toNat c _ (by omega) (by omega) (eAk _) ?_)
        rcases hcc with hcc | ⟨hcc, _⟩
        · subst hcc; exact .inl rfl
        · subst hcc; exact .inr ⟨rfl, rfl, rfl⟩
      · rename_i mm
        split at hs
        · rename_i hh'
          cases hs
          simp only at hc
          obtain ⟨c1, hc⟩ := and_true hc
          obtain ⟨c2, hc⟩ := and_true hc
          obtain ⟨c3, c4⟩ := and_true hc
          have c1 := z2b c1
          have c2 := z10 c2
          have c3 := z10 c3
          have c4 : mm ≤ ((len : Nat) : Int) := z10 c4
          have hbd := z3p (P := P) (w := w) hl hh hm el eh em true len c (z3c l 0) hh' mm rfl rfl rfl (by simp) c1 c2 c3 (by omega) (by omega)
          exact z0h.pure hr (z4g hd hz hbd) (key (z3c l 0).toNat hh'.toNat mm.toNat _ (by omega) (by omega) (by omega) (.inl rfl))
        · cases hs
    · cases hs
  ·
    rename_i id off
    split at hs
    · rename_i n esz ea hdesc
      rw [hdesc] at hk
      obtain ⟨e, rfl, hsz, _⟩ := hk
      have hvl := z8j hl el
      have hvh := z8j hh eh
      have hvm := z8j hm em
      simp at hvl hvh hvm
      subst hvl; subst hvh; subst hvm
      split at hs
      · rename_i es r0 hob
        cases hb : Nat.beq esz 1 with
        | false => rw [hb] at hs; cases hs
        | true =>
        rw [hb] at hs; cases hs
        have he := eAc hb
        subst he
        cases hx with
        | bptr _ _ L hL =>
          have ho := (hr.obj id L hL).2
          rw [hob] at ho
          have ho2 := ho
          obtain ⟨_, c, t, hcb, _, _⟩ := ho
          simp only [z3f, hob] at hrow
          obtain ⟨h1, hlt, _⟩ := z7t ho2 hrow hcb (j := 0) (x := r0) rfl
          refine z0h.pure (v := .slice (some ⟨L.blk, L.base + off, none⟩) n n) hr ?_ ?_
          · simp only [Instr.sliceAt, Sem.run_bind, z0d hd, Result.andThen_ok, Instr.sureAddr, Instr.sliceBounds, Sem.run_pure, z0v hsz, Nat.sub_zero, Nat.zero_mul, z39, eAt]
            split <;> rfl
          · refine .slice id 1 off n (some n) L _ n hL h1 (fun _ => ?_) (.inl rfl) (eAk _)
            rw [h1, eBx]
      · cases hs
    · rename_i l hi' _ _ _ _ n esz ea hdesc hno
      rw [hdesc] at hk
      obtain ⟨e, rfl, hsz, _⟩ := hk
      have hvm := z8j hm em
      simp at hvm
      subst hvm
      split at hs
      · rename_i es r0 hob
        cases hb : Nat.beq esz 1 with
        | false => rw [hb] at hs; cases hs
        | true =>
        rw [hb] at hs; cases hs
        simp only at hc
        obtain ⟨c1, hc⟩ := and_true hc
        obtain ⟨c2, c3⟩ := and_true hc
        have c1 := z2b c1
        have c2 : z3c l 0 ≤ z3c hi' ((n : Nat) : Int) := z10 c2
        have c3 : z3c hi' ((n : Nat) : Int) ≤ ((n : Nat) : Int) := z10 c3
        have he := eAc hb
        subst he
        cases hx with
        | bptr _ _ L hL =>
          have ho := (hr.obj id L hL).2
          rw [hob] at ho
          have ho2 := ho
          obtain ⟨_, c, t, hcb, _, _⟩ := ho
          simp only [z3f, hob] at hrow
          obtain ⟨h1, hlt, _⟩ := z7t ho2 hrow hcb (j := 0) (x := r0) rfl
          have hbd := z3p (P := P) (w := w) hl hh (mx := none) (vm := none) trivial el eh rfl false n n (z3c l 0) (z3c hi' ((n : Nat) : Int)) n rfl rfl rfl (by simp) c1 c2 (by omega) (by omega) (by omega)
          refine z0h.pure (v := .slice (some (if ((n : Nat) : Int).toNat = (z3c l 0).toNat then ⟨L.blk, L.base + off, none⟩ else (⟨L.blk, L.base + off, none⟩ : Addr).add ((z3c l 0).toNat * 1))) ((z3c hi' ((n : Nat) : Int)).toNat - (z3c l 0).toNat) (((n : Nat) : Int).toNat - (z3c l 0).toNat)) hr ?_ ?_
          · simp [Instr.sliceAt, Sem.run_bind, z0d hd, Result.andThen_ok, Instr.sureAddr, hbd, z0v hsz]
          · refine .slice id 1 (off + (z3c l 0).toNat) _ (some (n - (z3c l 0).toNat)) L _ _ hL h1 (fun hp => ?_) (.inl (by simp)) (by show (z3c hi' ((n : Nat) : Int)).toNat - (z3c l 0).toNat ≤ ((n : Nat) : Int).toNat - (z3c l 0).toNat; omega)
            simp only [eCh] at hp ⊢
            rw [if_neg (by omega), h1, eBx, eBx, z39]
            congr 2
            omega
      · cases hs
    · cases hs
  ·
    rename_i s
    split at hs
    · rename_i hdesc
      rw [hdesc] at hk
      cases hk
      cases hs
      simp only at hc
      obtain ⟨c1, hc⟩ := and_true hc
      obtain ⟨c2, c3⟩ := and_true hc
      have c1 := z2b c1
      have c2 : z3c l 0 ≤ z3c hi' ((s.size : Nat) : Int) := z10 c2
      have c3 : z3c hi' ((s.size : Nat) : Int) ≤ ((s.size : Nat) : Int) := z10 c3
      cases hx with | d hx =>
      cases hx
      have hvm := z8j hm em
      simp at hvm; subst hvm
      have hbd := z3p (P := P) (w := w) hl hh (mx := none) (vm := none) trivial el eh rfl false s.size s.size (z3c l 0) (z3c hi' ((s.size : Nat) : Int)) s.size rfl rfl rfl (by simp) c1 c2 (by omega) (by omega) (by omega)
      refine z0h.pure hr ?_ (.d (.str _))
      simp [Instr.sliceAt, Instr.slice, z0d hd, hbd, std]
    · cases hs
  · cases hs
theorem y5w (hr:z0a P ρ h w) {new:Nat} {op:BinOp} (hop:op= .lss∨op= .gtr) {xs:List AV} {vs:List Value} (hl:vs.length=xs.length) (hx:∀ (i:Nat) (x:AV) (v:Value),xs[i]?=some x→vs[i]?=some v→z0i ρ (z0c ρ h) w x v)
  {a:Array TypeId} {t:TypeId} {res:Res} (hs:y1c std op xs=some res):z0h P ρ h w new ((if op= .lss then Builtin.min_ else Builtin.max_) a t vs.toArray) res:=by
 have one:∀ (i:Nat) (k:IntKind) (n:Int) (v:Value),xs[i]?=some (.d (.int k n))→vs[i]?=some v→v= .int k n:=by
  intro i k n v h1 h2
  have:=hx i _ v h1 h2
  cases this with|d h=>cases h; rfl
 unfold y1c at hs
 split at hs
 ·cases hs
  obtain ⟨v1,v2,rfl⟩:∃ a b,vs=[a,b]:=by
   match vs,hl with|[a,b],_=>exact ⟨a,b,rfl⟩
  have e1:=one 0 _ _ v1 rfl rfl
  have e2:=one 1 _ _ v2 rfl rfl
  subst e1; subst e2
  rcases hop with rfl|rfl
  ·exact z0h.pure hr (by simp [Builtin.min_,Builtin.min2,std]) (.d (.int _ _))
  ·exact z0h.pure hr (by simp [Builtin.max_,Builtin.max2,std]) (.d (.int _ _))
 ·cases hs
  obtain ⟨v1,v2,v3,rfl⟩:∃ a b c,vs=[a,b,c]:=by
   match vs,hl with|[a,b,c],_=>exact ⟨a,b,c,rfl⟩
  have e1:=one 0 _ _ v1 rfl rfl
  have e2:=one 1 _ _ v2 rfl rfl
  have e3:=one 2 _ _ v3 rfl rfl
  subst e1; subst e2; subst e3
  rcases hop with rfl|rfl
  ·exact z0h.pure hr (by simp [Builtin.min_,Builtin.min2,std]) (.d (.int _ _))
  ·exact z0h.pure hr (by simp [Builtin.max_,Builtin.max2,std]) (.d (.int _ _))
 ·cases hs
  obtain ⟨v1,rfl⟩:∃ a,vs=[a]:=by
   match vs,hl with|[a],_=>exact ⟨a,rfl⟩
  have e1:=one 0 _ _ v1 rfl rfl
  subst e1
  rcases hop with rfl|rfl
  ·exact z0h.pure hr (by simp [Builtin.min_]) (.d (.int _ _))
  ·exact z0h.pure hr (by simp [Builtin.max_]) (.d (.int _ _))
 ·cases hs
end
end Go.Am
end
