/- Texts of this claim. -/
import Derived.Calls
import Derived.Laws.Sem
import Derived.Laws.World
import Derived.Laws.CopyRow
import Derived.Laws.Rows
import Derived.Laws.StructEq
set_option linter.unusedVariables false
set_option linter.unusedSimpArgs false
set_option linter.unusedSectionVars false
set_option maxRecDepth 100000
set_option maxHeartbeats 0
section
namespace Go.Am
inductive D where
 |bool (b:Bool)
 |int (k:IntKind) (n:Int)
 |str (s:ByteArray)
 |list (full:Bool) (z:Nat) (es:List (List D))
 |agg (cells:List D)
 |nilp|nilm|nilf|nili
 |ref (cells:List D)
 deriving Inhabited
inductive AV where
 |bot
 |d (x:D)
 |bptr (id off:Nat)
 |ptr (id i off:Nat)
 |lptr (cells:List D) (off:Nat)
 |wptr (es:List (List D)) (off:Nat)
 |slice (id z off len:Nat) (cap:Option Nat)
 |map (id:Nat)
 |yld (id:Nat)
 |clo (fn:Fn) (first captured:List AV)
 |iface (t:TypeId) (v:AV)
 |agg (cells:List AV)
 |tuple (vs:List AV)
 deriving Inhabited
inductive AO where
 |dead
 |box (cells:List AV)
 |row (es:List (List D))
 |arow (es:List (List AV))
 |map (es:List (D×D))
 |loop (st:LoopState) (pending:Option Code) (g:Nat) (pos:List Bool) (nt:Nat) (env:List (Nat×AV))
 deriving Inhabited
structure Loc where
 blk:Nat
 base:Nat
 esz:Nat
structure Rho where
 loc:Nat→Option Loc
 fr:Nat→Prop
instance:CoeFun Rho (fun _=>Nat→Option Loc):=⟨Rho.loc⟩
def z0j:List AO→Nat→AO
 |[],_=> .dead
 |o::_,0=>o
 |_::r,n+1=>z0j r n
def z1i:List AO→Nat→AO→List AO
 |[],0,x=>[x]
 |[],n+1,x=> .dead::z1i [] n x
 |_::r,0,x=>x::r
 |o::r,n+1,x=>o::z1i r n x
theorem z0m (h:List AO) (i:Nat) (x:AO):z0j (z1i h i x) i=x:=by
 induction h generalizing i with
 |nil=>induction i with
  |zero=>rfl
  |succ n ih=>simpa [z1i,z0j] using ih
 |cons o r ih=>cases i with
  |zero=>rfl
  |succ n=>simpa [z1i,z0j] using ih n
theorem z0g (h:List AO) (i j:Nat) (x:AO) (hne:i≠j):z0j (z1i h i x) j=z0j h j:=by
 induction h generalizing i j with
 |nil=>
  induction i generalizing j with
  |zero=>cases j with
   |zero=>exact absurd rfl hne
   |succ m=>simp [z1i,z0j]
  |succ n ih=>cases j with
   |zero=>simp [z1i,z0j]
   |succ m=>simpa [z1i,z0j] using ih m (by omega)
 |cons o r ih=>cases i with
  |zero=>cases j with
   |zero=>exact absurd rfl hne
   |succ m=>simp [z1i,z0j]
  |succ n=>cases j with
   |zero=>simp [z1i,z0j]
   |succ m=>simpa [z1i,z0j] using ih n m (by omega)
theorem x41 (h:List AO) (o:AO):z1i h h.length o=h++[o]:=by
 induction h with
 |nil=>rfl
 |cons x r ih=>simp [z1i,ih]
theorem z44 (h:List AO) (i:Nat) (o:AO) (hi:i<h.length):(z1i h i o).length=h.length:=by
 induction h generalizing i with
 |nil=>simp at hi
 |cons x r ih=>cases i with
  |zero=>rfl
  |succ n=>simpa [z1i] using ih n (by simpa using hi)
theorem z16 (h:List AO) (i:Nat) (o:AO):h.length≤(z1i h i o).length∧i<(z1i h i o).length:=by
 induction h generalizing i with
 |nil=>induction i with
  |zero=>simp [z1i]
  |succ n ih=>simp [z1i] at ih⊢; omega
 |cons x r ih=>cases i with
  |zero=>simp [z1i]
  |succ n=>have:=ih n; simp [z1i]; omega
theorem x3q (h:List AO) (i:Nat) (hi:h.length≤i):z0j h i= .dead:=by
 induction h generalizing i with
 |nil=>rfl
 |cons x r ih=>cases i with
  |zero=>simp at hi
  |succ n=>simpa [z0j] using ih n (by simpa using hi)
def AO.live:AO→Bool
 | .dead=>false
 |_=>true
def z0i (ρ:Rho) (h:List AO) (b:Nat):Prop:=ρ.fr b∨∃ id L,ρ id=some L∧(z0j h id).live=true∧L.blk=b
def z1v (w:World) (b:Nat):Option Nat:=
 match w.heap[b]? with
 |some (.cells c _ _)=>some c.size
 |_=>none
inductive z12 (O:Nat→Prop) (w:World):D→Value→Prop
 |bool (b:Bool):z12 O w (.bool b) (.bool b)
 |int (k:IntKind) (n:Int):z12 O w (.int k n) (.int k n)
 |str (s:ByteArray):z12 O w (.str s) (.string s)
 |nilp:z12 O w .nilp (.pointer none)
 |nilm:z12 O w .nilm (.map none)
 |nilf:z12 O w .nilf .nilFunc
 |nili:z12 O w .nili .nilIface
 |agg (ds:List D) (vs:Array Value) (hl:vs.size=ds.length) (h:∀ (i:Nat) (d:D),ds[i]?=some d→z12 O w d (vs.getD i undef)):z12 O w (.agg ds) (.agg vs)
 |lnil (full:Bool) (z:Nat) (a:Option Addr) (c:Nat) (h:full=true→c=0):z12 O w (.list full z []) (.slice a 0 c)
 |list (full:Bool) (es:List (List D)) (b o z c:Nat) (hz:0<z) (hne:es≠[]) (hO:¬ O b) (hlc:es.length≤c) (hf:full=true→c=es.length)
   (hsz:∀ (i:Nat) (r:List D),es[i]?=some r→r.length=z) (cell:Nat→Value) (h1:∀ k,k<es.length*z→(cell k).oneCell'=true) (hc:∀ k,k<es.length*z→w.cell? ⟨b,o+k,none⟩=some (cell k))
   (h:∀ (i:Nat) (r:List D) (j:Nat) (d:D),es[i]?=some r→r[j]?=some d→z12 O w d (cell (i*z+j))):z12 O w (.list full z es) (.slice (some ⟨b,o,none⟩) es.length c)
 |ref (r:List D) (b o:Nat) (hne:r≠[]) (hO:¬ O b) (cell:Nat→Value) (hc:∀ k,k<r.length→w.cell? ⟨b,o+k,none⟩=some (cell k))
   (h:∀ (k:Nat) (x:D),r[k]?=some x→z12 O w x (cell k)):z12 O w (.ref r) (.pointer (some ⟨b,o,none⟩))
inductive z0t (ρ:Rho) (O:Nat→Prop) (w:World):AV→Value→Prop
 |bot (v:Value):z0t ρ O w .bot v
 |d {x:D} {v:Value} (h:z12 O w x v):z0t ρ O w (.d x) v
 |bptr (id off:Nat) (L:Loc) (h:ρ id=some L):z0t ρ O w (.bptr id off) (.pointer (some ⟨L.blk,L.base+off,none⟩))
 |ptr (id i off:Nat) (L:Loc) (h:ρ id=some L):z0t ρ O w (.ptr id i off) (.pointer (some ⟨L.blk,L.base+i*L.esz+off,none⟩))
 |lptr (r:List D) (off b o:Nat) (hlt:b<w.heap.size) (hO:¬ O b) (cell:Nat→Value) (hc:∀ k,k<r.length→w.cell? ⟨b,o+k,none⟩=some (cell k))
   (hr:∀ (k:Nat) (x:D),r[k]?=some x→z12 O w x (cell k)):z0t ρ O w (.lptr r off) (.pointer (some ⟨b,o+off,none⟩))
 |wptr (es:List (List D)) (off b o z:Nat) (hlt:b<w.heap.size) (hO:¬ O b) (hz:∀ (i:Nat) (r:List D),es[i]?=some r→r.length=z)
   (hc:∀ (i:Nat) (r:List D) (j:Nat) (x:D),es[i]?=some r→r[j]?=some x→∃ v,w.cell? ⟨b,o+i*z+j,none⟩=some v∧z12 O w x v):z0t ρ O w (.wptr es off) (.pointer (some ⟨b,o+off,none⟩))
 |slice (id z off len:Nat) (cap:Option Nat) (L:Loc) (a:Option Addr) (c:Nat) (h:ρ id=some L) (hz:L.esz=z) (ha:0<c→a=some ⟨L.blk,L.base+off*L.esz,none⟩)
   (hc:cap=some c∨(cap=none∧∃ n,z1v w L.blk=some n∧L.base+(off+c)*L.esz≤n)) (hl:len≤c):z0t ρ O w (.slice id z off len cap) (.slice a len c)
 |nils (id z off:Nat) (cap:Option Nat) (a:Option Addr) (hc:cap=none∨cap=some 0):z0t ρ O w (.slice id z off 0 cap) (.slice a 0 0)
 |map (id:Nat) (L:Loc) (h:ρ id=some L):z0t ρ O w (.map id) (.map (some L.blk))
 |yld (id:Nat) (L:Loc) (h:ρ id=some L):z0t ρ O w (.yld id) (.func (.yield L.blk) #[] #[])
 |clo (fn:Fn) (fs cs:List AV) (vf vc:Array Value) (hf:vf.size=fs.length) (hc:vc.size=cs.length)
   (h1:∀ (i:Nat) (x:AV),fs[i]?=some x→z0t ρ O w x (vf.getD i undef)) (h2:∀ (i:Nat) (x:AV),cs[i]?=some x→z0t ρ O w x (vc.getD i undef)):z0t ρ O w (.clo fn fs cs) (.func fn vf vc)
 |iface (t:TypeId) (x:AV) (v:Value) (h:z0t ρ O w x v):z0t ρ O w (.iface t x) (.iface t v)
 |agg (xs:List AV) (vs:Array Value) (hl:vs.size=xs.length) (h:∀ (i:Nat) (x:AV),xs[i]?=some x→z0t ρ O w x (vs.getD i undef)):z0t ρ O w (.agg xs) (.agg vs)
 |tuple (xs:List AV) (vs:Array Value) (hl:vs.size=xs.length) (h:∀ (i:Nat) (x:AV),xs[i]?=some x→z0t ρ O w x (vs.getD i undef)):z0t ρ O w (.tuple xs) (.tuple vs)
def z00 (a b:Nat):Prop:=a≤b
theorem z00.refl (a:Nat):z00 a a:=Nat.le_refl _
theorem z00.trans {a b c:Nat} (h:z00 a b) (k:z00 b c):z00 a c:=Nat.le_trans h k
theorem z00.succ (a:Nat):z00 a (a+1):=Nat.le_succ _
structure z5n (O O':Nat→Prop) (w w':World):Prop where
 size:w.heap.size≤w'.heap.size
 frame:∀ b,b<w.heap.size→¬ O b→w'.heap[b]?=w.heap[b]?
 own:∀ b,b<w.heap.size→O' b→O b
 shape:∀ b n,z1v w b=some n→z1v w' b=some n
 drawn:z00 w.drawn w'.drawn
theorem z5n.refl (O:Nat→Prop) (w:World):z5n O O w w:=⟨Nat.le_refl _,fun _ _ _=>rfl,fun _ _ h=>h,fun _ _ h=>h,z00.refl _⟩
theorem y9l {w:World} {a:Addr} {v:Value} (h:w.cell? a=some v):a.block<w.heap.size:=by
 unfold World.cell? at h
 cases hb:w.heap[a.block]? with
 |none=>simp [hb] at h
 |some o=>exact (Array.getElem?_eq_some_iff.1 hb).1
theorem z3r {w w':World} {a:Addr} (h:w'.heap[a.block]?=w.heap[a.block]?):w'.cell? a=w.cell? a:=by
 unfold World.cell?; rw [h]
theorem z12.keep {O O':Nat→Prop} {w w':World} (k:z5n O O' w w') {x:D} {v:Value} (h:z12 O w x v):z12 O' w' x v:=by
 induction h with
 |bool b=>exact .bool b
 |int k n=>exact .int k n
 |str s=>exact .str s
 |nilp=>exact .nilp
 |nilm=>exact .nilm
 |nilf=>exact .nilf
 |nili=>exact .nili
 |agg ds vs hl h ih=>exact .agg ds vs hl ih
 |lnil f z a c h=>exact .lnil f z a c h
 |list full es b o z c hz hne hO hlc hf hsz cell h1 hc h ih=>
  have hlt:b<w.heap.size:=by
   have h0:0<es.length*z:=Nat.mul_pos (List.length_pos_iff.2 hne) hz
   exact y9l (hc 0 h0)
  refine .list full es b o z c hz hne (fun h=>hO (k.own b hlt h)) hlc hf hsz cell h1 (fun j hj=>?_) ih
  rw [z3r (w:=w)]
  ·exact hc j hj
  ·exact k.frame b hlt hO
 |ref r b o hne hO cell hc h ih=>
  have hlt:b<w.heap.size:=y9l (hc 0 (List.length_pos_iff.2 hne))
  refine .ref r b o hne (fun h=>hO (k.own b hlt h)) cell (fun j hj=>?_) ih
  rw [z3r (w:=w)]
  ·exact hc j hj
  ·exact k.frame b hlt hO
theorem z0t.keep {ρ ρ':Rho} {O O':Nat→Prop} {w w':World} (k:z5n O O' w w') (hρ:∀ id L,ρ id=some L→ρ' id=some L) {x:AV} {v:Value} (h:z0t ρ O w x v):z0t ρ' O' w' x v:=by
 induction h with
 |bot v=>exact .bot v
 |d h=>exact .d (h.keep k)
 |bptr id off L h=>exact .bptr id off L (hρ _ _ h)
 |ptr id i off L h=>exact .ptr id i off L (hρ _ _ h)
 |lptr r off b o hlt hO cell hc hr=>
  refine .lptr r off b o ?_ (fun h=>hO (k.own b hlt h)) cell (fun j hj=>?_) (fun j x hx=>(hr j x hx).keep k)
  ·exact Nat.lt_of_lt_of_le hlt k.size
  ·rw [z3r (w:=w)]
   ·exact hc j hj
   ·exact k.frame b hlt hO
 |wptr es off b o z hlt hO hz hc=>
  refine .wptr es off b o z (Nat.lt_of_lt_of_le hlt k.size) (fun h=>hO (k.own b hlt h)) hz fun i r j x hi hx=>?_
  obtain ⟨v,hv,hr⟩:=hc i r j x hi hx
  refine ⟨v,?_,hr.keep k⟩
  rw [z3r (w:=w)]
  ·exact hv
  ·exact k.frame b hlt hO
 |slice id z off len cap L a c h hz ha hc hl=>
  refine .slice id z off len cap L a c (hρ _ _ h) hz ha ?_ hl
  rcases hc with hc|⟨hc,n,hn,hle⟩
  ·exact .inl hc
  ·exact .inr ⟨hc,n,k.shape _ _ hn,hle⟩
 |nils id z off cap a hc=>exact .nils id z off cap a hc
 |map id L h=>exact .map id L (hρ _ _ h)
 |yld id L h=>exact .yld id L (hρ _ _ h)
 |clo fn fs cs vf vc hf hc h1 h2 ih1 ih2=>exact .clo fn fs cs vf vc hf hc ih1 ih2
 |iface t x v h ih=>exact .iface t x v ih
 |agg xs vs hl h ih=>exact .agg xs vs hl ih
 |tuple xs vs hl h ih=>exact .tuple xs vs hl ih
def v0x:D→D→Prop
 | .list f z es,y=>y= .list f z es∨(∃ z',y= .list false z' es∧(z'=z∨es=[]))
 |x,y=>y=x
theorem v0x.refl (x:D):v0x x x:=by cases x<;>first|rfl|exact .inl rfl
theorem z12.le0 {O:Nat→Prop} {w:World} {x y:D} {v:Value} (hl:v0x x y) (h:z12 O w x v):z12 O w y v:=by
 cases h with
 |lnil f z a c hf=>
  rcases hl with rfl|⟨z',rfl,_⟩
  ·exact .lnil f z a c hf
  ·exact .lnil false z' a c (by simp)
 |list full es b o z c hz hne hO hlc hf hsz cell h1 hc h=>
  rcases hl with rfl|⟨z',rfl,hz'⟩
  ·exact .list full es b o z c hz hne hO hlc hf hsz cell h1 hc h
  ·rcases hz' with rfl|h0
   ·exact .list false es b o z' c hz hne hO hlc (by simp) hsz cell h1 hc h
   ·exact absurd h0 hne
 |bool b=>cases hl; exact .bool b
 |int k n=>cases hl; exact .int k n
 |str s=>cases hl; exact .str s
 |nilp=>cases hl; exact .nilp
 |nilm=>cases hl; exact .nilm
 |nilf=>cases hl; exact .nilf
 |nili=>cases hl; exact .nili
 |agg ds vs h1 h2=>cases hl; exact .agg ds vs h1 h2
 |ref r b o hne hO cell hc h=>cases hl; exact .ref r b o hne hO cell hc h
def DLe (x y:D):Prop:=v0x x y∨∃ r r',x= .ref r∧y= .ref r'∧r'.length=r.length∧∀ (j:Nat) (d:D),r'[j]?=some d→∃ c,r[j]?=some c∧v0x c d
theorem DLe.refl (x:D):DLe x x:= .inl (.refl x)
theorem z12.le {O:Nat→Prop} {w:World} {x y:D} {v:Value} (hl:DLe x y) (h:z12 O w x v):z12 O w y v:=by
 rcases hl with hl|⟨r,r',rfl,rfl,h1,h2⟩
 ·exact h.le0 hl
 ·cases h with
  |ref _ b o hne hO cell hc h=>
   refine .ref r' b o (by intro e; rw [e] at h1; exact hne (List.length_eq_zero_iff.1 h1.symm)) hO cell (fun k hk=>hc k (by omega)) fun k d hd=>?_
   obtain ⟨c,hc1,hle⟩:=h2 k d hd
   exact (h k c hc1).le0 hle
def w14 (r r':List D):Prop:=r'.length=r.length∧∀ (j:Nat) (y:D),r'[j]?=some y→∃ x,r[j]?=some x∧DLe x y
theorem w14.refl (r:List D):w14 r r:=⟨rfl,fun j y h=>⟨y,h, .refl y⟩⟩
def w15 (es:List (List D)) (i:Nat) (r:List D):Prop:=∃ r0,es[i]?=some r0∧w14 r0 r
def u1m (x y:D):Prop:=DLe x y∨∃ l l',x= .agg l∧y= .agg l'∧w14 l l'
theorem z12.le2 {O:Nat→Prop} {w:World} {x y:D} {v:Value} (hl:u1m x y) (h:z12 O w x v):z12 O w y v:=by
 rcases hl with hl|⟨l,l',rfl,rfl,h1,h2⟩
 ·exact h.le hl
 ·cases h with
  |agg _ vs hs hh=>
   refine .agg l' vs (by rw [h1]; exact hs) fun i d hd=>?_
   obtain ⟨x,hx,hle⟩:=h2 i d hd
   exact (hh i x hx).le hle
end Go.Am
end
section
namespace Go.Am
inductive SK where
 |i|b|s
 deriving DecidableEq
inductive TK where
 |int (k:IntKind)|bool|str
 |struct (fs:List (Nat×Nat×Bool))
 |arr (n esz:Nat) (eagg:Bool)
 |slc (e esz ebytes:Nat) (eagg:Bool) (ezero:List D)
 |ptr (arr:Option (Nat×Nat))
 |map (ks:List SK) (kagg:Bool) (ezero:D)
 |mapx
 |func|iface|other
 deriving Inhabited
structure TI where
 size:Nat
 bytes:Nat
 agg:Bool
 zero:List D
 desc:TK
 eqk:Option (List SK)
 deriving Inhabited
def v4c:Value→Option D
 | .bool b=>some (.bool b)
 | .int k n=>some (.int k n)
 | .string s=>some (.str s)
 | .slice none 0 0=>some (.list true 0 [])
 | .pointer none=>some .nilp
 | .map none=>some .nilm
 | .nilFunc=>some .nilf
 | .nilIface=>some .nili
 |_=>none
def y1l:List Value→Option (List D)
 |[]=>some []
 |v::r=>match v4c v,y1l r with
  |some d,some ds=>some (d::ds)
  |_,_=>none
def v7b:Value→Option D
 | .agg cs=>(y1l cs.toList).map .agg
 |v=>v4c v
def z64:TypeDesc→Bool
 | .struct _| .array _ _=>true
 |_=>false
def z8q (P:Program) (t:TypeId):Option Nat:=(P.info? t).map (·.size)
def z3u (P:Program) (t:TypeId):Option Bool:=(P.underlying t).map z64
def y36 (P:Program) (t:TypeId):Option (List D):=((P.info? t).bind (·.zero)).bind fun z=>y1l z.cells.toList
def x8r (P:Program) (t:TypeId):Option D:=((P.info? t).bind (·.zero)).bind v7b
def y0t (P:Program) (t:TypeId):Option Nat:=(P.info? t).map (·.bytes)
def w2z (P : Program) (flat : TypeId → Option (List SK)) : Nat → List Field → Option (List SK)
 | _, [] => some []
 | off, f :: fs => if f.name ≠ "_" ∧ f.offset = off then
   match flat f.type with
   | some ks => if z8q P f.type = some ks.length then (w2z P flat (off + ks.length) fs).map (ks ++ ·) else none
   | none => none
  else none
def w0k (P:Program) (flat:TypeId→Option (List SK)) (t:TypeId):Option (List SK):=
 match P.underlying t with
 |some (.int _)=>some [.i]
 |some .bool=>some [.b]
 |some .string=>some [.s]
 |some (.struct fs)=>if P.stoodInHeld t then none else w2z P flat 0 fs.toList
 |some (.array m e)=>(flat e).map fun ks=>(List.replicate m ks).flatten
 |_=>none
def flatK (P:Program):Nat→TypeId→Option (List SK)
 |0,_=>none
 |n+1,t=>match w0k P (flatK P n) t with
  |some ks=>if z8q P t=some ks.length then some ks else none
  |none=>none
def fieldsOf (P:Program):List Field→Option (List (Nat×Nat×Bool))
 |[]=>some []
 |f::r=>match z8q P f.type,z3u P f.type,fieldsOf P r with
  |some s,some a,some l=>some ((f.offset,s,a)::l)
  |_,_,_=>none
def v7z (P:Program):TypeDesc→Option TK
 | .int k=>some (.int k)
 | .bool=>some .bool
 | .string=>some .str
 | .struct fs=>(fieldsOf P fs.toList).map .struct
 | .array n e=>match z8q P e,z3u P e with
  |some s,some a=>some (.arr n s a)
  |_,_=>none
 | .slice e=>match z8q P e,z3u P e,y0t P e,y36 P e with
  |some s,some a,some b,some z=>if z.length=s then some (.slc e s b a z) else none
  |_,_,_,_=>none
 | .pointer e=>match P.underlying e with
  |some (.array n e')=>(z8q P e').map fun s=> .ptr (some (n,s))
  |_=>some (.ptr none)
 | .map k e=>match flatK P 8 k,z3u P k,x8r P e,P.eqGuardType P.depth k with
  |some ks,some a,some z,false=>some (.map ks a z)
  |_,_,_,_=>some .mapx
 | .func _ _ _=>some .func
 | .interface _=>some .iface
 |_=>some .other
def x95:Value→Bool
 | .agg _=>true
 |_=>false
def v63 (P:Program) (t:TypeId):Option TI:=
 match P.info? t,P.underlying t with
 |some i,some d=>match i.zero with
  |some z=>match y1l z.cells.toList,v7z P d with
   |some zs,some k=>if (z64 d==x95 z)&&(zs.length==i.size) then some ⟨i.size,i.bytes,z64 d,zs,k,if P.eqGuardType P.depth t then none else flatK P 8 t⟩ else none
   |_,_=>none
  |none=>none
 |_,_=>none
inductive CR where
 |int (k:IntKind)|bool|str|list (z:Nat)
 deriving Inhabited
inductive CK where
 |int (k:IntKind)|bool|str|list (z:Nat)|other
 |ref (ks:List CR)
 deriving Inhabited
structure Prim where
 ar:BinOp→IntKind→Int→Int→Int
 cmp:BinOp→Int→Int→Bool
 cvt:IntKind→Int→Int
 nat:Int→Nat
 ofNat:Nat→Int
 add:Nat→Nat→Nat
 sub:Nat→Nat→Nat
 mul:Nat→Nat→Nat
 leN:Nat→Nat→Bool
 byte:ByteArray→Int→Int
 bEq:Bool→Bool→Bool
 len:List (List D)→Nat
 w3s:List (List AV)→Nat
 set:List (List D)→Nat→List D→List (List D)
 app:List (List D)→List (List D)→List (List D)
 cut:List (List D)→Nat→Nat→List (List D)
 strEq:ByteArray→ByteArray→Bool
 rep:Nat→List D→List (List D)
 splice:List (List D)→Nat→List (List D)→List (List D)
 min:Nat→Nat→Nat
 and:Bool→Bool→Bool
 mm:BinOp→Int→Int→Int
 mset:List (D×D)→Nat→D→D→List (D×D)
 madd:List (D×D)→D→D→List (D×D)
 mdel:List (D×D)→Nat→List (D×D)
 mlen:List (D×D)→Nat
 eqN:Nat→Nat→Bool
 rowOk:List (List D)→Nat→List CK→Bool
 rdI:List (List D)→Nat→Nat→Int
 rdB:List (List D)→Nat→Nat→Bool
 rdS:List (List D)→Nat→Nat→ByteArray
 rdL:List (List D)→Nat→Nat→List (List D)
 rdR:List (List D)→Nat→Nat→List (List D)
 mOk:List (D×D)→List SK→Bool→D→Bool→List CK→Bool
 mhas:List (D×D)→List SK→Bool→D→Bool
 mpos:List (D×D)→List SK→Bool→D→Nat
 mI:List (D×D)→List SK→Bool→D→Nat→Int
 mB:List (D×D)→List SK→Bool→D→Nat→Bool
 mS:List (D×D)→List SK→Bool→D→Nat→ByteArray
 mL:List (D×D)→List SK→Bool→D→Nat→List (List D)
 mR:List (D×D)→List SK→Bool→D→Nat→List (List D)
 plain:List (List D)→Bool
 plainM:List (D×D)→Bool
def x28 (op:BinOp) (k:IntKind) (x y:Int):Int:=
 match op with
 | .add=>k.wrap (x+y)
 | .sub=>k.wrap (x - y)
 | .mul=>k.wrap (x*y)
 | .quo=>k.wrap (x.tdiv y)
 | .rem=>x.tmod y
 | .and=>k.wrap ((BitVec.ofInt k.bits x&&&BitVec.ofInt k.bits y).toNat:Nat)
 | .or=>k.wrap ((BitVec.ofInt k.bits x|||BitVec.ofInt k.bits y).toNat:Nat)
 | .xor=>k.wrap ((BitVec.ofInt k.bits x ^^^ BitVec.ofInt k.bits y).toNat:Nat)
 | .andNot=>k.wrap ((BitVec.ofInt k.bits x&&& ~~~ (BitVec.ofInt k.bits y)).toNat:Nat)
 | .shl=>k.wrap (x*2 ^ (min y.toNat k.bits))
 | .shr=>x.fdiv (2 ^ (min y.toNat k.bits))
 |_=>0
def z6a (op:BinOp) (x y:Int):Bool:=
 match op with
 | .eql=>x==y
 | .neq=>x !=y
 | .lss=>x<y
 | .leq=>x≤y
 | .gtr=>x>y
 | .geq=>x≥y
 |_=>false
def z8e:List SK→List D→List D→Option Bool
 |[],[],[]=>some true
 | .i::ks, .int k a::x, .int k' b::y=>bif k==k' then match z8e ks x y with
   |some r=>some (z6a .eql a b&&r)
   |none=>none
  else none
 | .b::ks, .bool a::x, .bool b::y=>match z8e ks x y with
   |some r=>some ((a==b)&&r)
   |none=>none
 | .s::ks, .str a::x, .str b::y=>match z8e ks x y with
   |some r=>some ((a.toList==b.toList)&&r)
   |none=>none
 |_,_,_=>none
def z06:D→List D
 | .agg l=>l
 |x=>[x]
def z10:D→Bool
 | .agg _=>true
 |_=>false
def x1s (ks:List SK) (ka:Bool) (k:D):List (D×D)→Nat→Option (Option (Nat×D))
 |[],_=>some none
 |(k',v)::r,i=>bif (z10 k==ka)&&(z10 k'==ka) then match z8e ks (z06 k) (z06 k') with
   |some true=>some (some (i,v))
   |some false=>x1s ks ka k r (i+1)
   |none=>none
  else none
def z1n:List SK→List D→Bool
 |[],[]=>true
 | .i::ks, .int _ _::r=>z1n ks r
 | .b::ks, .bool _::r=>z1n ks r
 | .s::ks, .str _::r=>z1n ks r
 |_,_=>false
def y9m:CR→D→Bool
 | .int k, .int k' _=>k==k'
 | .bool, .bool _=>true
 | .str, .str _=>true
 | .list z, .list _ z' es=>Nat.beq z z'||es.isEmpty
 |_,_=>false
def z9w:List CR→List D→Bool
 |[],[]=>true
 |c::cs,d::ds=>y9m c d&&z9w cs ds
 |_,_=>false
def y7x:CK→D→Bool
 | .int k, .int k' _=>k==k'
 | .bool, .bool _=>true
 | .str, .str _=>true
 | .list z, .list _ z' es=>Nat.beq z z'||es.isEmpty
 | .ref ks, .ref ds=>z9w ks ds
 |_,_=>false
def z3m:List CK→List D→Bool
 |[],[]=>true
 |c::cs,d::ds=>y7x c d&&z3m cs ds
 |_,_=>false
def rdD (es:List (List D)) (i j:Nat):D:=((es[i]?).bind (·[j]?)).getD .nilp
def dI:D→Int
 | .int _ n=>n
 |_=>0
def dB:D→Bool
 | .bool b=>b
 |_=>false
def dS:D→ByteArray
 | .str s=>s
 |_=>ByteArray.empty
def dL:D→List (List D)
 | .list _ _ es=>es
 |_=>[]
def dR:D→List (List D)
 | .ref r=>[r]
 |_=>[]
def w7w (es:List (D×D)) (ks:List SK) (ka:Bool) (k:D):Option (Nat×D):=(x1s ks ka k es 0).join
def x3t (es:List (D×D)) (ks:List SK) (ka:Bool) (k:D) (j:Nat):D:=match w7w es ks ka k with
 |some (_,v)=>((z06 v)[j]?).getD .nilp
 |none=> .nilp
mutual
def z8l:D→Bool
 | .list _ _ es=>es.isEmpty
 | .agg ds=>y8r ds
 | .ref _=>false
 |_=>true
def y8r:List D→Bool
 |[]=>true
 |d::l=>z8l d&&y8r l
end
def std:Prim where
 ar:=x28
 cmp:=z6a
 cvt:=fun k n=>k.wrap n
 nat:=Int.toNat
 ofNat:=fun n=>(n:Int)
 add:=fun a b=>a+b
 sub:=fun a b=>a - b
 mul:=fun a b=>a*b
 leN:=fun a b=>Nat.ble a b
 byte:=fun s i=>((s[i.toNat]?.map fun b=>(b.toNat:Int)).getD 0)
 bEq:=fun a b=>a==b
 len:=fun l=>l.length
 w3s:=fun l=>l.length
 set:=fun l i r=>l.set i r
 app:=fun a b=>a++b
 cut:=fun l a n=>(l.drop a).take n
 strEq:=fun a b=>a.toList==b.toList
 rep:=fun n z=>List.replicate n z
 splice:=fun l i xs=>l.take i++xs++l.drop (i+xs.length)
 min:=fun a b=>Nat.min a b
 and:=fun a b=>a&&b
 mm:=fun op a b=>match op with| .lss=>if b<a then b else a|_=>if b>a then b else a
 mset:=fun es i k x=>es.set i (k,x)
 madd:=fun es k x=>es++[(k,x)]
 mdel:=fun es i=>es.eraseIdx i
 mlen:=fun es=>es.length
 eqN:=fun a b=>Nat.beq a b
 rowOk:=fun es i ck=>match es[i]? with|some r=>z3m ck r|none=>false
 rdI:=fun es i j=>dI (rdD es i j)
 rdB:=fun es i j=>dB (rdD es i j)
 rdS:=fun es i j=>dS (rdD es i j)
 rdL:=fun es i j=>dL (rdD es i j)
 rdR:=fun es i j=>dR (rdD es i j)
 mOk:=fun es ks ka k a ck=>(z10 k==ka)&&z1n ks (z06 k)&&match x1s ks ka k es 0 with|some none=>true|some (some (_,v))=>(z10 v==a)&&z3m ck (z06 v)|none=>false
 mhas:=fun es ks ka k=>(w7w es ks ka k).isSome
 mpos:=fun es ks ka k=>((w7w es ks ka k).map (·.1)).getD 0
 mI:=fun es ks ka k j=>dI (x3t es ks ka k j)
 mB:=fun es ks ka k j=>dB (x3t es ks ka k j)
 mS:=fun es ks ka k j=>dS (x3t es ks ka k j)
 mL:=fun es ks ka k j=>dL (x3t es ks ka k j)
 mR:=fun es ks ka k j=>dR (x3t es ks ka k j)
 plain:=fun es=>es.all fun r=>r.all z8l
 plainM:=fun es=>es.all fun e=>z8l e.1&&z8l e.2
inductive v54 where
 |arith|divs|bits|shift|comp
def z96:BinOp→v54
 | .add| .sub| .mul=> .arith
 | .quo| .rem=> .divs
 | .and| .or| .xor| .andNot=> .bits
 | .shl| .shr=> .shift
 |_=> .comp
structure Res where
 c:Bool
 v:AV
 u:List (Nat×AO)
def z2f:List (Nat×AV)→Nat→AV
 |[],_=> .bot
 |(k,v)::r,t=>bif Nat.beq k t then v else z2f r t
def x2p:List (Nat×AV)→Nat→AV→List (Nat×AV)
 |[],t,v=>[(t,v)]
 |(k,w)::r,t,v=>bif Nat.beq k t then (k,v)::r else (k,w)::x2p r t v
def z0x (env:List (Nat×AV)):Operand→AV
 | .tmp t=>z2f env t
 | .const v=>match v7b v with
  |some d=> .d d
  |none=> .bot
 | .global _=> .bot
 | .func f=> .clo (.func f) [] []
def z1x (env:List (Nat×AV)):List Operand→List AV
 |[]=>[]
 |x::r=>z0x env x::z1x env r
def x2s:List AV→Option (List D)
 |[]=>some []
 | .d x::r=>match x2s r with
  |some l=>some (x::l)
  |none=>none
 |_::_=>none
def toA:List D→List AV
 |[]=>[]
 |x::r=> .d x::toA r
def z6e (agg:Bool) (l:List AV):Option AV:=
 match agg with
 |true=>match x2s l with
  |some ds=>some (.d (.agg ds))
  |none=>some (.agg l)
 |false=>match l with
  |[x]=>some x
  |_=>none
def z43 (agg:Bool) (l:List D):Option AV:=
 match agg with
 |true=>some (.d (.agg l))
 |false=>match l with
  |[x]=>some (.d x)
  |_=>none
def z2p:AV→Option (List AV)
 | .d (.agg l)=>some (toA l)
 | .agg l=>some l
 | .bot=>none
 | .tuple _=>none
 |x=>some [x]
def w3t:AV→Bool
 | .d (.agg _)| .agg _| .bot| .tuple _=>false
 |_=>true
def w73:D→Bool
 | .agg _=>false
 |_=>true
def z6u:List AV→Bool
 |[]=>true
 |x::r=>w3t x&&z6u r
def part {α:Type}:List α→Nat→Nat→Option (List α)
 |_,0,0=>some []
 |x::l,0,n+1=>match part l 0 n with
  |some r=>some (x::r)
  |none=>none
 |_::l,i+1,n=>part l i n
 |[],_,_=>none
def x63 {α:Type}:List α→Nat→List α→Option (List α)
 |l,0,[]=>some l
 |_::l,0,x::xs=>match x63 l 0 xs with
  |some r=>some (x::r)
  |none=>none
 |y::l,i+1,xs=>match x63 l i xs with
  |some r=>some (y::r)
  |none=>none
 |[],_,_=>none
def ok (v:AV):Option Res:=some ⟨true,v,[]⟩
def z7n {α:Type}:List α→Nat→Bool
 |[],0=>true
 |_::l,n+1=>z7n l n
 |_,_=>false
def z4b (ti:TI) (h:List AO) (r:List D) (ra:List AV):AV→Option Res
 | .bptr id off=>match z0j h id with
  | .box cells=>match part cells off ti.size with
   |some l=>(z6e ti.agg l).bind ok
   |none=>none
  | .row _=>bif z7n r ti.size then (z43 ti.agg r).bind ok else none
  |_=>none
 | .ptr id _ off=>match z0j h id with
  | .row _=>match part r off ti.size with
   |some l=>(z43 ti.agg l).bind ok
   |none=>none
  | .arow _=>match part ra off ti.size with
   |some l=>(z6e ti.agg l).bind ok
   |none=>none
  |_=>none
 | .wptr _ _=>bif z7n r ti.size then (z43 ti.agg r).bind ok else none
 | .lptr cells off=>match part cells off ti.size with
  |some l=>(z43 ti.agg l).bind ok
  |none=>none
 |_=>none
def x9n:List D→List (List D)
 |[]=>[]
 |x::l=>[x]::x9n l
def x5d {α:Type}:List α→Nat
 |[]=>0
 |_::l=>x5d l+1
def z4p (p:Prim) (h:List AO) (r:List D) (ra:List AV) (cells:List AV):AV→Option Res
 | .bptr id off=>match z0j h id with
  | .box old=>match x63 old off cells with
   |some l=>some ⟨true, .bot,[(id, .box l)]⟩
   |none=>none
  | .row es=>match x2s cells,r with
   |some [x],[_]=>some ⟨true, .bot,[(id, .row (p.set es off [x]))]⟩
   |some ds,[_]=>some ⟨p.leN (p.add off (x5d ds)) (p.len es), .bot,[(id, .row (p.splice es off (x9n ds)))]⟩
   |_,_=>none
  |_=>none
 | .ptr id i off=>match z0j h id with
  | .row es=>match x2s cells with
   |some ds=>match x63 r off ds with
    |some l=>some ⟨true, .bot,[(id, .row (p.set es i l))]⟩
    |none=>none
   |none=>none
  | .arow es=>match x63 ra off cells with
   |some l=>some ⟨true, .bot,[(id, .arow (es.set i l))]⟩
   |none=>none
  |_=>none
 |_=>none
def z5b (p:Prim) (ti:TI) (h:List AO) (r:List D) (ra:List AV) (a x:AV):Option Res:=
 match z2p x with
 |some cells=>bif Nat.ble 1 ti.size&&(z7n cells ti.size&&z6u cells) then z4p p h r ra cells a else none
 |none=>none
def y6k (place:Nat→Option (Nat×Nat)) (cells:List AV):List (Nat×AV)→Option (List AV)
 |[]=>some cells
 |(i,v)::rest=>match place i,z2p v with
  |some (off,size),some cs=>bif z7n cs size then
    match x63 cells off cs with
    |some l=>y6k place l rest
    |none=>none
   else none
  |_,_=>none
def z2k {α:Type}:List α→Nat→Option α
 |[],_=>none
 |x::_,0=>some x
 |_::r,n+1=>z2k r n
def y0z (ti:TI) (parts:List (Nat×AV)):Option Res:=
 match ti.desc with
 | .struct fs=>match y6k (fun i=>(z2k fs i).map fun f=>(f.1,f.2.1)) (toA ti.zero) parts with
  |some l=>(z6e true l).bind ok
  |none=>none
 | .arr n esz _=>match y6k (fun i=>some (i*esz,esz)) (toA ti.zero) parts with
  |some l=>(z6e true l).bind ok
  |none=>none
 |_=>none
def x18 {α:Type} (n:Nat):(fuel:Nat)→List α→Option (List (List α))
 |_,[]=>some []
 |0,_::_=>none
 |f+1,l=>match part l 0 n with
  |some x=>(x18 n f (l.drop n)).map (x:: ·)
  |none=>none
def y6q:List (List AV)→Option (List (List D))
 |[]=>some []
 |x::r=>match x2s x,y6q r with
  |some d,some l=>some (d::l)
  |_,_=>none
def w20 {α:Type}:Nat→List α→List α
 |0,_=>[]
 |n+1,l=>l++w20 n l
def x9x (es:List (List AV)):AO:=
 match y6q es with
 |some l=> .row l
 |none=> .arow es
def z2n (ti:TI) (new len:Nat) (parts:List (Nat×AV)):Option Res:=
 match ti.desc with
 | .slc _ esz _ _ ez=>bif Nat.ble 1 esz&&(Nat.ble (len*esz) 1000000) then
   match y6k (fun i=>some (i*esz,esz)) (toA (w20 len ez)) parts with
   |some l=>bif z6u l then match x18 esz len l with
    |some es=>some ⟨true, .slice new esz 0 len (some len),[(new,x9x es)]⟩
    |none=>none
    else none
   |none=>none
  else none
 |_=>none
def z4c (ti:TI) (new len:Nat) (parts:List (Nat×AV)) (r:List D):Option Res:=
 match r with
 |[]=>z2n ti new len parts
 |_::_=>match len with
  |0=>match z2n ti new 0 parts,ti.desc with
   |some _, .slc _ z _ _ _=>some ⟨true, .d (.list true z []),[]⟩
   |_,_=>none
  |n+1=>match z2n ti new (n+1) parts with
   |some res=>match res.u,ti.desc with
    |[(_, .row l)], .slc _ z _ _ _=>some ⟨true, .d (.list true z l),[]⟩
    |_,_=>some res
   |none=>none
def y0y (ti:TI) (f:Nat):AV→Option Res
 | .bptr id off=>match ti.desc with
  | .struct fs=>match z2k fs f with
   |some (o,s,_)=>bif Nat.ble 1 s then ok (.bptr id (off+o)) else none
   |none=>none
  |_=>none
 | .ptr id i off=>match ti.desc with
  | .struct fs=>match z2k fs f with
   |some (o,s,_)=>bif Nat.ble 1 s then ok (.ptr id i (off+o)) else none
   |none=>none
  |_=>none
 | .wptr c off=>match ti.desc with
  | .struct fs=>match z2k fs f with
   |some (o,s,_)=>bif Nat.ble 1 s then ok (.wptr c (off+o)) else none
   |none=>none
  |_=>none
 | .lptr c off=>match ti.desc with
  | .struct fs=>match z2k fs f with
   |some (o,s,_)=>bif Nat.ble 1 s then ok (.lptr c (off+o)) else none
   |none=>none
  |_=>none
 |_=>none
def z6o (ti:TI) (f:Nat):AV→Option Res
 | .d (.agg l)=>match ti.desc with
  | .struct fs=>match z2k fs f with
   |some (o,s,a)=>match part l o s with
    |some c=>(z43 a c).bind ok
    |none=>none
   |none=>none
  |_=>none
 | .agg l=>match ti.desc with
  | .struct fs=>match z2k fs f with
   |some (o,s,a)=>match part l o s with
    |some c=>(z6e a c).bind ok
    |none=>none
   |none=>none
  |_=>none
 |_=>none
def z2y (p q:Prim) (ti:TI) (h:List AO) (r:List D):AV→AV→Option Res
 | .d (.list _ z es), .d (.int _ i)=>match ti.desc with
  | .slc _ esz _ _ _=>bif Nat.beq z esz then some ⟨q.cmp .geq i 0, .lptr r 0,[]⟩ else none
  |_=>none
 | .slice id z off len cap, .d (.int _ i)=>match ti.desc with
  | .slc _ esz _ _ _=>bif Nat.beq z esz then some ⟨p.cmp .geq i 0&&p.cmp .lss i (p.ofNat len), .ptr id (p.add off (p.nat i)) 0,[]⟩ else none
  |_=>none
 | .bptr id off, .d (.int _ i)=>match ti.desc with
  | .arr n esz _=>match z0j h id with
   | .row _=>some ⟨q.cmp .geq i 0&&q.cmp .lss i (q.ofNat n), .bptr id (p.add off (bif Nat.beq esz 1 then q.nat i else q.mul (q.nat i) esz)),[]⟩
   |_=>some ⟨q.cmp .geq i 0&&q.cmp .lss i (q.ofNat n), .bptr id (off+i.toNat*esz),[]⟩
  |_=>none
 | .ptr id k off, .d (.int _ i)=>match ti.desc with
  | .arr n esz _=>some ⟨q.cmp .geq i 0&&q.cmp .lss i (q.ofNat n), .ptr id k (off+i.toNat*esz),[]⟩
  |_=>none
 | .wptr c off, .d (.int _ i)=>match ti.desc with
  | .arr n esz _=>some ⟨q.cmp .geq i 0&&q.cmp .lss i (q.ofNat n), .wptr c (p.add off (bif Nat.beq esz 1 then q.nat i else q.mul (q.nat i) esz)),[]⟩
  |_=>none
 | .lptr c off, .d (.int _ i)=>match ti.desc with
  | .arr n esz _=>some ⟨q.cmp .geq i 0&&q.cmp .lss i (q.ofNat n), .lptr c (off+i.toNat*esz),[]⟩
  |_=>none
 |_,_=>none
def z6n (p q:Prim) (ti:TI):AV→AV→Option Res
 | .d (.agg l), .d (.int _ i)=>match ti.desc with
  | .arr n esz a=>match part l (i.toNat*esz) esz with
   |some c=>(z43 a c).bind fun v=>some ⟨q.cmp .geq i 0&&q.cmp .lss i (q.ofNat n),v,[]⟩
   |none=>none
  |_=>none
 | .agg l, .d (.int _ i)=>match ti.desc with
  | .arr n esz a=>match part l (i.toNat*esz) esz with
   |some c=>(z6e a c).bind fun v=>some ⟨q.cmp .geq i 0&&q.cmp .lss i (q.ofNat n),v,[]⟩
   |none=>none
  |_=>none
 | .d (.str s), .d (.int _ i)=>match ti.desc with
  | .str=>some ⟨p.cmp .geq i 0&&p.cmp .lss i (p.ofNat s.size), .d (.int .u8 (p.byte s i)),[]⟩
  |_=>none
 |_,_=>none
def z1p (p:Prim):List SK→List D→List D→Option Bool
 |[],[],[]=>some true
 | .i::ks, .int k a::x, .int k' b::y=>bif k==k' then match z1p p ks x y with
   |some r=>some (p.cmp .eql a b&&r)
   |none=>none
  else none
 | .b::ks, .bool a::x, .bool b::y=>match z1p p ks x y with
   |some r=>some (p.bEq a b&&r)
   |none=>none
 | .s::ks, .str a::x, .str b::y=>match z1p p ks x y with
   |some r=>some (p.strEq a b&&r)
   |none=>none
 |_,_,_=>none
def w0s (ti:TI):AV→AV→Option Bool
 | .d .nilf, .d .nilf=>match ti.desc with| .func=>some true|_=>none
 | .d .nilf, .clo _ _ _=>match ti.desc with| .func=>some false|_=>none
 | .clo _ _ _, .d .nilf=>match ti.desc with| .func=>some false|_=>none
 | .d .nilp, .d .nilp=>match ti.desc with| .ptr _=>some true|_=>none
 | .d .nilp, .bptr _ _=>match ti.desc with| .ptr _=>some false|_=>none
 | .bptr _ _, .d .nilp=>match ti.desc with| .ptr _=>some false|_=>none
 | .d .nili, .d .nili=>none
 | .iface _ _, .d .nili=>match ti.desc with| .iface=>some false|_=>none
 | .d .nili, .iface _ _=>match ti.desc with| .iface=>some false|_=>none
 |_,_=>none
def eqA (p:Prim) (ti:TI) (x y:AV):Option Bool:=
 match ti.eqk,x,y with
 |some ks, .d a, .d b=>bif (z10 a==ti.agg)&&(z10 b==ti.agg) then z1p p ks (z06 a) (z06 b) else none
 |_,x,y=>w0s ti x y
def y8e (p:Prim) (ti:TI) (op:BinOp) (x y:AV):Option Res:=
 match x,y with
 | .d (.int k a), .d (.int k' b)=>
  match z96 op with
  | .arith=>bif k==k' then ok (.d (.int k (p.ar op k a b))) else none
  | .bits=>bif k==k' then ok (.d (.int k (p.ar op k a b))) else none
  | .divs=>bif k==k' then some ⟨p.cmp .neq b 0, .d (.int k (p.ar op k a b)),[]⟩ else none
  | .shift=>some ⟨p.cmp .geq b 0, .d (.int k (p.ar op k a b)),[]⟩
  | .comp=>bif k==k' then ok (.d (.bool (p.cmp op a b))) else none
 | .d (.str a), .d (.str b)=>match op with
  | .eql=>ok (.d (.bool (p.strEq a b)))
  | .neq=>ok (.d (.bool (!p.strEq a b)))
  |_=>none
 |x,y=>match op with
  | .eql=>(eqA p ti x y).bind fun b=>ok (.d (.bool b))
  | .neq=>(eqA p ti x y).bind fun b=>ok (.d (.bool (!b)))
  |_=>none
def v1w:Operand→Bool
 | .const (.slice none 0 0)=>true
 |_=>false
def z9j (p:Prim) (ti:TI) (op:BinOp) (x:AV):Option Res:=
 match ti.desc,op,x with
 | .slc .., .eql, .d (.list _ _ es)=>some ⟨p.leN 1 (p.len es), .d (.bool false),[]⟩
 | .slc .., .neq, .d (.list _ _ es)=>some ⟨p.leN 1 (p.len es), .d (.bool true),[]⟩
 | .slc .., .eql, .slice _ _ _ len _=>some ⟨p.leN 1 len, .d (.bool false),[]⟩
 | .slc .., .neq, .slice _ _ _ len _=>some ⟨p.leN 1 len, .d (.bool true),[]⟩
 |_,_,_=>none
def x4p (p:Prim) (op:UnOp):AV→Option Res
 | .d (.int k a)=>match op with
  | .neg=>ok (.d (.int k (p.ar .sub k 0 a)))
  | .xor=>ok (.d (.int k (p.ar .xor k (if k.signed then -1 else k.max) a)))
  |_=>none
 | .d (.bool b)=>match op with
  | .not=>ok (.d (.bool (!b)))
  |_=>none
 |_=>none
def z72 (p:Prim) (src dst:TI):AV→Option Res
 | .d (.int k n)=>match src.desc,dst.desc with
  | .int _, .int k'=>ok (.d (.int k' (p.cvt k' n)))
  |_,_=>none
 | .d (.str s)=>match src.desc,dst.desc with
  | .str, .str=>ok (.d (.str s))
  |_,_=>none
 |_=>none
def w3s (p:Prim) (ti:TI) (h:List AO):AV→Option Res
 | .d (.list _ _ es)=>match ti.desc with
  | .slc ..=>ok (.d (.int .i64 (p.ofNat (p.len es))))
  |_=>none
 | .slice _ _ _ len _=>match ti.desc with
  | .slc ..=>ok (.d (.int .i64 (p.ofNat len)))
  |_=>none
 | .d (.str s)=>match ti.desc with
  | .str=>ok (.d (.int .i64 (p.ofNat s.size)))
  |_=>none
 | .d (.agg _)=>match ti.desc with
  | .arr n _ _=>ok (.d (.int .i64 (p.ofNat n)))
  |_=>none
 | .bptr _ _=>match ti.desc with
  | .ptr (some (n,_))=>ok (.d (.int .i64 (p.ofNat n)))
  |_=>none
 | .d .nilm=>match ti.desc with
  | .map _ _ _=>ok (.d (.int .i64 0))
  |_=>none
 | .map id=>match ti.desc,z0j h id with
  | .map _ _ _, .map es=>ok (.d (.int .i64 (p.ofNat (p.mlen es))))
  |_,_=>none
 |_=>none
inductive Els where
 |d (es:List (List D))
 |a (es:List (List AV))
def z58:List (List D)→List (List AV)
 |[]=>[]
 |r::l=>toA r::z58 l
def z37 (p:Prim) (z:Nat) (h:List AO):AV→Option (Bool×Els)
 | .d (.list _ z' es)=>bif Nat.beq z z' then some (true, .d es) else match es with
  |[]=>some (true, .d [])
  |_=>none
 | .slice id z' off len _=>bif Nat.beq z z' then match z0j h id with
  | .row es=>some (p.leN (p.add off len) (p.len es), .d (p.cut es off len))
  | .arow es=>some (p.leN (p.add off len) es.length, .a ((es.drop off).take len))
  |_=>none
 else none
 |_=>none
def z7u (p:Prim):AV→Nat
 | .d (.list _ _ es)=>p.len es
 | .slice _ _ _ len _=>len
 |_=>0
def Els.app (p:Prim):Els→Els→AO
 | .d x, .d y=> .row (p.app x y)
 | .d x, .a y=> .arow (z58 x++y)
 | .a x, .d y=> .arow (x++z58 y)
 | .a x, .a y=> .arow (x++y)
def z4d (l:List (List AV)) (i:Nat) (xs:List (List AV)):List (List AV):=l.take i++xs++l.drop (i+xs.length)
def x40 (p:Prim) (o:AO) (i:Nat) (x:Els):Option AO:=
 match o,x with
 | .row es, .d xs=>some (.row (p.splice es i xs))
 | .row es, .a xs=>some (.arow (z4d (z58 es) i xs))
 | .arow es, .d xs=>some (.arow (z4d es i (z58 xs)))
 | .arow es, .a xs=>some (.arow (z4d es i xs))
 |_,_=>none
def v2x (p:Prim):AO→Nat
 | .row es=>p.len es
 | .arow es=>es.length
 |_=>0
def z4n (p:Prim) (s x:AV):Option Bool:=
 match s with
 | .d (.list full _ _)=>some full
 | .slice _ _ _ len (some c)=>some (p.leN (p.add len (z7u p x)) c)
 |_=>none
def z5p:Nat:=1000000
def w6n:List D→Nat→Bool
 |[],_=>false
 |_::_,0=>false
 |_::_,_+1=>true
def z2g (p:Prim) (ti:TI) (h:List AO) (new:Nat) (q:Bool) (r:List D) (s x:AV):Option Res:=
 match ti.desc with
 | .slc _ z eb _ _=>bif Nat.ble 1 z&&Nat.ble eb 60000 then match z37 p z h x,z37 p z h s with
  |some (cx,xs),some (cs,es)=>
   match s with
   | .d (.list _ zs _)=>match q with
    |true=>bif w6n r zs then match es,xs with
      | .d e, .d y=>some ⟨p.and cx (p.and (p.leN 1 (z7u p x)) (p.leN (p.add (z7u p s) (z7u p x)) z5p)), .d (.list false z (p.app e y)),[]⟩
      |_,_=>none
     else some ⟨p.and cx (p.and (p.leN 1 (z7u p x)) (p.leN (p.add (z7u p s) (z7u p x)) z5p)), .slice new z 0 (p.add (z7u p s) (z7u p x)) none,[(new,Els.app p es xs)]⟩
    |false=>none
   | .slice id _ off len none=>some ⟨p.and cx (p.and cs (p.and (p.leN 1 (z7u p x)) (p.leN (p.add len (z7u p x)) z5p))), .slice new z 0 (p.add len (z7u p x)) none,[(id, .dead),(new,Els.app p es xs)]⟩
   | .slice id _ off len (some c)=>match q with
    |true=>match x40 p (z0j h id) (p.add off len) xs with
     |some o=>some ⟨p.and cx (p.and cs (p.and (p.leN 1 (z7u p x)) (p.leN (p.add off c) (v2x p (z0j h id))))), .slice id z off (p.add len (z7u p x)) (some c),[(id,o)]⟩
     |none=>none
    |false=>some ⟨p.and cx (p.and cs (p.and (p.leN 1 (z7u p x)) (p.leN (p.add len (z7u p x)) z5p))), .slice new z 0 (p.add len (z7u p x)) none,[(new,Els.app p es xs)]⟩
   |_=>none
  |_,_=>none
 else none
 |_=>none
def x3d:AV→Option (Nat×Nat×Nat×Nat)
 | .slice id z off len _=>some (id,z,off,len)
 |_=>none
def x08:AO→Option (List (List D))
 | .row es=>some es
 |_=>none
def two:List D→Bool
 |[_,_]=>true
 |_=>false
def x33:List (Nat×AO)→Nat→Option AO→Option AO
 |[],_,a=>a
 |(i,o)::r,id,a=>x33 r id (bif Nat.beq i id then some o else a)
def y25 (p:Prim) (r:List D) (res:Res):Res:=
 bif two r then match x3d res.v with
  |some (id,z,off,len)=>match x33 res.u id none with
   |some o=>match x08 o with
    |some es=>⟨p.and res.c (p.leN (p.add off len) (p.len es)), .d (.list false z (p.cut es off len)),res.u++[(id, .dead)]⟩
    |none=>res
   |none=>res
  |none=>res
 else res
def zer:List D→Bool
 |_::_::_=>true
 |_=>false
def x4s:AV→Option (Nat×Nat×Nat×Nat×Nat)
 | .slice id z off len (some c)=>some (id,z,off,len,c)
 |_=>none
def u0l:Els→Option (List (List D))
 | .d x=>some x
 | .a _=>none
def y3d (p:Prim) (ti:TI) (h:List AO) (s x:AV):Option Res:=
 match ti.desc with
 | .slc _ z eb _ _=>bif Nat.ble 1 z&&Nat.ble eb 60000 then
   match x4s s with
   |some (id,_,off,len,c)=>match z37 p z h x with
    |some (cx,xs)=>match z37 p z h s with
     |some (cs,_)=>match x08 (z0j h id) with
      |some es=>match u0l xs with
       |some ys=>some ⟨p.and cx (p.and cs (p.leN (p.add off c) (p.len es))), .slice id z off (p.add len (z7u p x)) (some c),[(id, .row (p.splice es (p.add off len) ys))]⟩
       |none=>none
      |none=>none
     |none=>none
    |none=>none
   |none=>none
  else none
 |_=>none
def z3g (p:Prim) (ti:TI) (h:List AO) (new:Nat) (q:Bool) (r:List D) (s x:AV):Option Res:=
 (match (bif zer r&&q then y3d p ti h s x else none) with
  |some res=>some res
  |none=>z2g p ti h new q r s x).map (y25 p r)
def z5u (p:Prim) (ti:TI) (new:Nat) (l c:AV):Option Res:=
 match ti.desc,l,c with
 | .slc _ z eb _ ez, .d (.int _ l), .d (.int _ c)=>bif Nat.ble 1 z&&(Nat.ble eb 60000&&z6u (toA ez)) then
   some ⟨p.and (p.cmp .geq l 0) (p.and (p.cmp .leq l c) (p.cmp .leq c 1000000)), .slice new z 0 (p.nat l) (some (p.nat c)),[(new, .row (p.rep (p.nat c) ez))]⟩
  else none
 |_,_,_=>none
def w5x:Option AV→Option (Option Int)
 |none=>some none
 |some (.d (.int _ n))=>some (some n)
 |_=>none
def z51 (x:Option Int) (d:Int):Int:=
 match x with
 |some n=>n
 |none=>d
def w6l (p:Prim) (x:Option Nat) (n:Nat):Option Nat:=
 match x with
 |some c=>some (p.sub c n)
 |none=>none
def w36 (ti:TI):AV→AV
 | .d (.list f z es)=>match ti.desc with
  | .slc _ z' _ _ _=>bif Nat.beq z 0 then match es with
    |[]=> .d (.list f z' [])
    |_::_=> .d (.list f z es)
   else .d (.list f z es)
  |_=> .d (.list f z es)
 |x=>x
def z59 (p:Prim) (ti:TI) (h:List AO) (r:List D) (x:AV) (lo hi mx:Option AV):Option Res:=
 match w5x lo,w5x hi,w5x mx with
 |some lo,some hi,some mx=>
  match x with
  | .d (.list full z es)=>match ti.desc with
   | .slc _ z' _ _ _=>bif Nat.beq z z' then match mx with
    |none=>
     let h:=z51 hi (p.ofNat (p.len es))
     let l:=z51 lo 0
     some ⟨p.and (p.cmp .geq l 0) (p.and (p.cmp .leq l h) (p.cmp .leq h (p.ofNat (p.len es)))), .d (.list (p.and full (p.cmp .eql h (p.ofNat (p.len es)))) z (p.cut es (p.nat l) (p.sub (p.nat h) (p.nat l)))),[]⟩
    |some m=>match hi with
     |some h=>
      let l:=z51 lo 0
      some ⟨p.and (p.cmp .geq l 0) (p.and (p.cmp .leq l h) (p.and (p.cmp .leq h m) (p.cmp .leq m (p.ofNat (p.len es))))), .d (.list (p.cmp .eql h m) z (p.cut es (p.nat l) (p.sub (p.nat h) (p.nat l)))),[]⟩
     |none=>none
    else none
   |_=>none
  | .slice id z off len cap=>match ti.desc with
   | .slc _ z' _ _ _=>bif Nat.beq z z' then match mx with
    |none=>
     let h:=z51 hi (p.ofNat len)
     let l:=z51 lo 0
     some ⟨p.and (p.cmp .geq l 0) (p.and (p.cmp .leq l h) (p.cmp .leq h (p.ofNat len))), .slice id z (p.add off (p.nat l)) (p.sub (p.nat h) (p.nat l)) (w6l p cap (p.nat l)),[]⟩
    |some m=>match hi with
     |some h=>
      let l:=z51 lo 0
      some ⟨p.and (p.cmp .geq l 0) (p.and (p.cmp .leq l h) (p.and (p.cmp .leq h m) (p.cmp .leq m (p.ofNat len)))), .slice id z (p.add off (p.nat l)) (p.sub (p.nat h) (p.nat l)) (some (p.sub (p.nat m) (p.nat l))),[]⟩
     |none=>none
    else none
   |_=>none
  | .bptr id off=>match ti.desc,lo,hi,mx with
   | .arr n esz _,none,none,none=>match z0j h id,r with
    | .row _,[_]=>bif Nat.beq esz 1 then some ⟨true, .slice id 1 off n (some n),[]⟩ else none
    |_,_=>none
   |_,_,_,_=>none
  | .d (.str s)=>match ti.desc,mx with
   | .str,none=>
    let h:=z51 hi (p.ofNat s.size)
    let l:=z51 lo 0
    some ⟨p.and (p.cmp .geq l 0) (p.and (p.cmp .leq l h) (p.cmp .leq h (p.ofNat s.size))), .d (.str (s.extract (p.nat l) (p.nat h))),[]⟩
   |_,_=>none
  |_=>none
 |_,_,_=>none
def z6p (p:Prim) (ti:TI) (h:List AO) (d s:AV):Option Res:=
 match ti.desc with
 | .slc _ z _ _ _=>bif Nat.ble 1 z then match z37 p z h s,d with
  |some (c, .d xs), .slice id z' off len _=>bif Nat.beq z z' then match z0j h id with
   | .row es=>some ⟨p.and c (p.and (p.leN (z7u p s) len) (p.leN (p.add off len) (p.len es))), .d (.int .i64 (p.ofNat (z7u p s))),[(id, .row (p.splice es off xs))]⟩
   |_=>none
   else none
  |some (c, .d _), .d (.list _ _ [])=>some ⟨c, .d (.int .i64 0),[]⟩
  |_,_=>none
  else none
 |_=>none
def z5c (p:Prim) (ti:TI) (h:List AO) (x:AV):Option Res:=
 match ti.desc with
 | .slc _ z _ _ ez=>bif Nat.ble 1 z&&z6u (toA ez) then match x with
  | .slice id z' off len _=>bif Nat.beq z z' then match z0j h id with
   | .row es=>some ⟨p.leN (p.add off len) (p.len es), .tuple [],[(id, .row (p.splice es off (p.rep len ez)))]⟩
   |_=>none
   else none
  | .d (.list _ _ [])=>ok (.tuple [])
  |_=>none
  else none
 |_=>none
def y12 (p:Prim) (op:BinOp):List AV→Option Res
 |[.d (.int k a), .d (.int _ b)]=>ok (.d (.int k (p.mm op a b)))
 |[.d (.int k a), .d (.int _ b), .d (.int _ c)]=>ok (.d (.int k (p.mm op (p.mm op a b) c)))
 |[.d (.int k a)]=>ok (.d (.int k a))
 |_=>none
def y8a (c a b:AV):Option Res:=
 match c with
 | .d (.bool true)=>ok a
 | .d (.bool false)=>ok b
 |_=>none
def y0c (x:AV) (i:Nat):Option Res:=
 match x with
 | .tuple vs=>(z2k vs i).bind ok
 |_=>none
def y04 (k:IntKind):List D→Bool
 |[]=>true
 | .int k' (.ofNat 0)::l=>(k'==k)&&y04 k l
 |_=>false
def x8u (ti:TI):Option IntKind:=
 bif Nat.ble 20 ti.size then match ti.zero with
  | .int k _::_=>bif y04 k ti.zero then some k else none
  |_=>none
 else none
def y01 (p:Prim) (ti:TI) (new:Nat):Option Res:=
 bif Nat.ble 1 ti.size then match x8u ti with
  |some k=>some ⟨true, .bptr new 0,[(new, .row (p.rep ti.size [.int k 0]))]⟩
  |none=>some ⟨true, .bptr new 0,[(new, .box (toA ti.zero))]⟩
 else none
def y5d:List D→Bool
 |[]=>true
 |x::l=>w73 x&&y5d l
def y8d (ti:TI) (new:Nat) (x:AV):Option Res:=
 bif Nat.ble 1 ti.size then match z2p x with
  |some l=>bif z7n l ti.size then match x8u ti with
    |some _=>match x2s l with
     |some ds=>bif y5d ds then some ⟨true, .bptr new 0,[(new, .row (x9n ds))]⟩ else none
     |none=>none
    |none=>some ⟨true, .bptr new 0,[(new, .box l)]⟩
   else none
  |none=>none
 else none
def x23:AV→Option Res
 | .bptr id off=>ok (.bptr id off)
 | .ptr id i off=>ok (.ptr id i off)
 | .wptr r off=>ok (.wptr r off)
 | .lptr r off=>ok (.lptr r off)
 |_=>none
def y2o (env:List (Nat×AV)):List (Nat×Operand)→List (Nat×AV)
 |[]=>[]
 |(i,x)::r=>(i,z0x env x)::y2o env r
def z8n (env:List (Nat×AV)):Option Operand→Option AV
 |none=>none
 |some x=>some (z0x env x)
def z5j (p:Prim) (ks:List SK) (ka:Bool) (k:D):List (D×D)→Nat→Option (Option (Nat×D))
 |[],_=>some none
 |(k',v)::r,i=>bif (z10 k==ka)&&(z10 k'==ka) then match z1p p ks (z06 k) (z06 k') with
   |some true=>some (some (i,v))
   |some false=>z5j p ks ka k r (i+1)
   |none=>none
  else none
def z3c (p:Prim) (ti:TI) (h:List AO) (m k:AV):Option (Option (Nat×D)):=
 match ti.desc,k with
 | .map ks ka _, .d k=>bif (z10 k==ka)&&z1n ks (z06 k) then match m with
  | .d .nilm=>some none
  | .map id=>match z0j h id with
   | .map es=>z5j p ks ka k es 0
   |_=>none
  |_=>none
  else none
 |_,_=>none
def z4q (ti:TI) (q:Bool) (r:List D) (commaOk:Bool):Option Res:=
 match ti.desc with
 | .map _ _ ez=>match q,r with
  |true,[_,v]=>ok (bif commaOk then .tuple [.d v, .d (.bool true)] else .d v)
  |false,_=>ok (bif commaOk then .tuple [.d ez, .d (.bool false)] else .d ez)
  |_,_=>none
 |_=>none
def z34 (p:Prim) (ti:TI) (h:List AO) (q:Bool) (r:List D) (m k x:AV):Option Res:=
 match ti.desc,m,k,x with
 | .map _ _ _, .map id, .d k, .d x=>match z0j h id with
  | .map es=>match q,r with
   |true,[.int _ i,_]=>some ⟨true, .bot,[(id, .map (p.mset es (p.nat i) k x))]⟩
   |false,_=>some ⟨true, .bot,[(id, .map (p.madd es k x))]⟩
   |_,_=>none
  |_=>none
 |_,_,_,_=>none
def z35 (p:Prim) (ti:TI) (h:List AO) (q:Bool) (r:List D) (m:AV):Option Res:=
 match ti.desc,m with
 | .map _ _ _, .map id=>match z0j h id with
  | .map es=>match q,r with
   |true,[.int _ i,_]=>some ⟨true, .tuple [],[(id, .map (p.mdel es (p.nat i)))]⟩
   |false,_=>some ⟨true, .tuple [],[(id, .map es)]⟩
   |_,_=>none
  |_=>none
 |_,_=>none
def z7z (new:Nat) (hint:Option AV):Option Res:=
 match hint with
 |none=>some ⟨true, .map new,[(new, .map [])]⟩
 |_=>none
def z3f (p:Prim) (T:TypeId→Option TI) (h:List AO) (new:Nat) (q:Bool) (r:List D) (b:Builtin) (ts:List TypeId) (xs:List AV):Option Res:=
 match b,ts,xs with
 | .len,[t],[x]=>match T t with
  |some ti=>w3s p ti h x
  |none=>none
 | .append,[t,t2],[s,x]=>match T t,T t2 with
  |some ti,some ti2=>match ti2.desc with
   | .slc _ _ _ _ _=>z3g p ti h new q r s x
   |_=>none
  |_,_=>none
 | .copy,t::_,[d,x]=>match T t with
  |some ti=>z6p p ti h d x
  |none=>none
 | .delete,t::_,[m,_]=>match T t with
  |some ti=>z35 p ti h q r m
  |none=>none
 | .clear,t::_,[x]=>match T t with
  |some ti=>z5c p ti h x
  |none=>none
 | .min,_,xs=>y12 p .lss xs
 | .max,_,xs=>y12 p .gtr xs
 |_,_,_=>none
def x0b:AV→AV
 | .d (.ref r)=> .lptr r 0
 |x=>x
def pOf (p:Prim):Operand→Prim
 | .const _=>std
 |_=>p
def z1u (p:Prim) (T:TypeId→Option TI) (env:List (Nat×AV)) (h:List AO) (new:Nat) (q:Bool) (r:List D) (ra:List AV) (op:Op):Option Res:=
 match op with
 | .move x=>ok (z0x env x)
 | .assign x=>ok (z0x env x)
 | .pick c a b=>y8a (z0x env c) (z0x env a) (z0x env b)
 | .alloc t=>match T t with
  |some ti=>y01 p ti new
  |none=>none
 | .box t x=>match T t with
  |some ti=>y8d ti new (z0x env x)
  |none=>none
 | .build t ps=>match T t with
  |some ti=>y0z ti (y2o env ps.toList)
  |none=>none
 | .buildSlice t len ps=>match T t with
  |some ti=>z4c ti new len (y2o env ps.toList) r
  |none=>none
 | .load t a=>match T t with
  |some ti=>z4b ti h r ra (x0b (z0x env a))
  |none=>none
 | .store t a x=>match T t with
  |some ti=>z5b p ti h r ra (z0x env a) (z0x env x)
  |none=>none
 | .nilCheck x=>x23 (x0b (z0x env x))
 | .binOp op t x y _=>match T t with
  |some ti=>bif v1w y then z9j p ti op (z0x env x) else y8e p ti op (z0x env x) (z0x env y)
  |none=>none
 | .unOp op _ x=>x4p p op (z0x env x)
 | .convert s t x=>match T s,T t with
  |some ts,some tt=>z72 p ts tt (z0x env x)
  |_,_=>none
 | .makeFunc fn f c=>ok (.clo fn (z1x env f.toList) (z1x env c.toList))
 | .makeSlice t l c=>match T t with
  |some ti=>z5u p ti new (z0x env l) (z0x env c)
  |none=>none
 | .slice t x lo hi mx=>match T t with
  |some ti=>z59 p ti h r (w36 ti (z0x env x)) (z8n env lo) (z8n env hi) (z8n env mx)
  |none=>none
 | .fieldAddr t x f=>match T t with
  |some ti=>y0y ti f (x0b (z0x env x))
  |none=>none
 | .field t x f=>match T t with
  |some ti=>z6o ti f (z0x env x)
  |none=>none
 | .indexAddr t x i=>match T t with
  |some ti=>z2y p (pOf p i) ti h r (z0x env x) (z0x env i)
  |none=>none
 | .index t x i=>match T t with
  |some ti=>z6n p (pOf p i) ti (z0x env x) (z0x env i)
  |none=>none
 | .extract x i=>y0c (z0x env x) i
 | .call ⟨.builtin b,args,ts⟩=>z3f p T h new q r b ts.toList (z1x env args.toList)
 | .makeMap t n=>match T t with
  |some ti=>z7z new (z8n env n)
  |none=>none
 | .lookup t m k o=>match T t with
  |some ti=>match ti.desc with
   | .map _ _ _=>z4q ti q r o
   |_=>none
  |none=>none
 | .mapUpdate t m k x=>match T t with
  |some ti=>z34 p ti h q r (z0x env m) (z0x env k) (z0x env x)
  |none=>none
 |_=>none
inductive w2c where
 |none
 |d (es:List (List D)) (i:Nat)
 |n (es:List (List D)) (i n:Nat)
 |a (es:List (List AV)) (i:Nat)
 |b (x:Bool)
 |m (x:Option (Option (Nat×D)))
def z8o (h:List AO) (n:Nat):AV→w2c
 | .bptr id off=>match z0j h id with
  | .row es=> .n es off n
  |_=> .none
 | .wptr es off=> .n es off n
 | .ptr id i _=>match z0j h id with
  | .row es=> .d es i
  | .arow es=> .a es i
  |_=> .none
 |_=> .none
def z4a (h:List AO):AV→w2c
 | .bptr id off=>match z0j h id with
  | .row es=> .n es off 1
  |_=> .none
 |_=> .none
def v7g (T:TypeId→Option TI) (t:TypeId):Nat:=
 match T t with
 |some ti=>ti.size
 |none=>0
def w61 (p:Prim):AV→AV→w2c
 | .d (.list _ _ es), .d (.int _ i)=> .d es (p.nat i)
 |_,_=> .none
def w62 (x:Option Bool):w2c:=
 match x with
 |some b=> .b b
 |none=> .none
def y0v (p:Prim) (T:TypeId→Option TI) (t:TypeId) (h:List AO) (m k:AV):w2c:=
 match T t with
 |some ti=> .m (z3c p ti h m k)
 |none=> .m none
def z2e (p:Prim) (T:TypeId→Option TI) (env:List (Nat×AV)) (h:List AO) (op:Op):w2c:=
 match op with
 | .load t a=>z8o h (v7g T t) (x0b (z0x env a))
 | .store _ a _=>z8o h 1 (z0x env a)
 | .slice _ x _ _ _=>z4a h (z0x env x)
 | .indexAddr _ x i=>w61 p (z0x env x) (z0x env i)
 | .call ⟨.builtin .append,args,_⟩=>match z1x env args.toList with
  |[s,x]=>w62 (z4n p s x)
  |_=> .none
 | .call ⟨.builtin .delete,args,ts⟩=>match ts.toList,z1x env args.toList with
  |t::_,[m,k]=>y0v p T t h m k
  |_,_=> .m none
 | .lookup t m k _=>y0v p T t h (z0x env m) (z0x env k)
 | .mapUpdate t m k _=>y0v p T t h (z0x env m) (z0x env k)
 |_=> .none
def y54 (es:List (List D)) (i:Nat) (r:List D):Prop:=∀ (j:Nat) (x:D),r[j]?=some x→w15 es (i+j) [x]
def w2c.ok (q:Bool) (r:List D) (ra:List AV):w2c→Prop
 | .none=>True
 | .d es i=>w15 es i r
 | .n es i _=>y54 es i r
 | .a es i=>es[i]?=some ra
 | .b x=>x=q
 | .m x=>(x=some Option.none∧q=false)∨∃ i v v',x=some (some (i,v))∧u1m v v'∧q=true∧r=[.int .i64 (i:Nat),v']
end Go.Am
end
section
namespace Go.Am
variable {P:Program}
def v03:Code→Bool→Option Code
 | .seq a _,false=>some a
 | .seq _ b,true=>some b
 | .cond _ a _,false=>some a
 | .cond _ _ b,true=>some b
 | .block _ c,false=>some c
 | .loop c,false=>some c
 | .scope c,false=>some c
 | .rangeFunc _ _ a _,false=>some a
 | .rangeFunc _ _ _ b,true=>some b
 |_,_=>none
def w6m (P:Program) (g:Nat):Option Code:=(P.funcs[g]?).bind (·.body)
def z36 (P:Program) (g:Nat):List Bool→Option Code
 |[]=>w6m P g
 |b::l=>(z36 P g l).bind (v03 · b)
def z3n (en:Array MapEntry) (clk:Nat):Prop:=(∀ x∈en.toList,x.born<clk)∧(en.toList.map (·.born)).Nodup
theorem z3n.empty (clk:Nat):z3n #[] clk:=⟨by simp,by simp⟩
theorem z3n.push {en:Array MapEntry} {clk:Nat} (h:z3n en clk) (k v:Value):z3n (en.push { key:=k,val:=v,born:=clk }) (clk+1):=by
 refine ⟨fun x hx=>?_,?_⟩
 ·simp only [Array.toList_push,List.mem_append,List.mem_singleton] at hx
  rcases hx with hx|rfl
  ·exact Nat.lt_succ_of_lt (h.1 x hx)
  ·exact Nat.lt_succ_self _
 ·simp only [Array.toList_push,List.map_append,List.map_cons,List.map_nil]
  refine List.nodup_append.2 ⟨h.2,by simp,fun a ha b hb=>?_⟩
  obtain ⟨x,hx,rfl⟩:=List.mem_map.1 ha
  simp only [List.mem_singleton] at hb
  subst hb
  exact Nat.ne_of_lt (h.1 x hx)
theorem z3n.modify {en:Array MapEntry} {clk:Nat} (h:z3n en clk) (i:Nat) (k v:Value):z3n (en.modify i fun e=>{ key:=k,val:=v,born:=e.born }) clk:=by
 have e1:(en.modify i fun e=>{ key:=k,val:=v,born:=e.born }).toList.map (·.born)=en.toList.map (·.born):=by
  apply List.ext_getElem?
  intro j
  simp only [List.getElem?_map,Array.getElem?_toList,Array.getElem?_modify]
  split
  ·rename_i hij; subst hij; cases en[i]?<;>rfl
  ·rfl
 refine ⟨fun x hx=>?_,by rw [e1]; exact h.2⟩
 have:x.born∈en.toList.map (·.born):=by rw [←e1]; exact List.mem_map.2 ⟨x,hx,rfl⟩
 obtain ⟨y,hy,e⟩:=List.mem_map.1 this
 rw [←e]; exact h.1 y hy
theorem z3n.erase {en:Array MapEntry} {clk:Nat} (h:z3n en clk) (i:Nat):z3n (en.eraseIdxIfInBounds i) clk:=by
 have e1:(en.eraseIdxIfInBounds i).toList=en.toList.eraseIdx i:=by
  unfold Array.eraseIdxIfInBounds
  split
  ·simp
  ·rename_i hge; rw [List.eraseIdx_of_length_le (by simpa using hge)]
 refine ⟨fun x hx=>h.1 x ?_,?_⟩
 ·rw [e1] at hx; exact List.mem_of_mem_eraseIdx hx
 ·rw [e1]; exact h.2.sublist ((List.eraseIdx_sublist _ _).map _)
def z17 (P:Program) (ρ:Rho) (O:Nat→Prop) (w:World) (L:Loc):AO→Prop
 | .dead=>True
 | .box cells=>∃ (c:Array Value) (t:TypeId),w.heap[L.blk]?=some (.cells c t (0,0))∧∀ (j:Nat) (x:AV),cells[j]?=some x→∃ v:Value,c[L.base+j]?=some v∧z0t ρ O w x v
 | .row es=>0<L.esz∧∃ (c:Array Value) (t:TypeId),w.heap[L.blk]?=some (.cells c t (0,0))∧(∀ (i:Nat) (r:List D),es[i]?=some r→r.length=L.esz)∧
   ∀ (i:Nat) (r:List D) (j:Nat) (x:D),es[i]?=some r→r[j]?=some x→∃ v:Value,c[L.base+i*L.esz+j]?=some v∧v.oneCell'=true∧z12 O w x v
 | .arow es=>0<L.esz∧∃ (c:Array Value) (t:TypeId),w.heap[L.blk]?=some (.cells c t (0,0))∧(∀ (i:Nat) (r:List AV),es[i]?=some r→r.length=L.esz)∧
   ∀ (i:Nat) (r:List AV) (j:Nat) (x:AV),es[i]?=some r→r[j]?=some x→∃ v:Value,c[L.base+i*L.esz+j]?=some v∧v.oneCell'=true∧z0t ρ O w x v
 | .map es=>∃ (en:Array MapEntry) (clk:Nat),w.heap[L.blk]?=some (.map en clk)∧(en.size=es.length∧z3n en clk)∧
   ∀ (i:Nat) (k x:D),es[i]?=some (k,x)→∃ e:MapEntry,en[i]?=some e∧z12 O w k e.key∧z12 O w x e.val
 | .loop st pd g pos nt env=>∃ (x:Operand) (ps:Array Tmp) (asg body:Code),z36 P g pos=some (.rangeFunc x ps asg body)∧∃ (tm:Array Value) (ds:Nat) (f:FuncId),w.heap[L.blk]?=some (.loop { state:=st,pending:=pd,fn:=f,tmps:=tm,params:=ps,assign:=asg,body:=body,defers:=ds })∧
   tm.size=nt∧∀ t,z0t ρ O w (z2f env t) (tm.getD t undef)
structure z0c (P:Program) (ρ:Rho) (h:List AO) (w:World):Prop where
 obj:∀ id L,ρ id=some L→L.blk<w.heap.size∧z17 P ρ (z0i ρ h) w L (z0j h id)
 inj:∀ id id' L L',ρ id=some L→ρ id'=some L'→(z0j h id).live=true→(z0j h id').live=true→L.blk=L'.blk→id=id'
 fr:∀ b,ρ.fr b→b<w.heap.size
 sep:∀ id L,ρ id=some L→(z0j h id).live=true→¬ ρ.fr L.blk
theorem z17.keep {ρ ρ':Rho} {O O':Nat→Prop} {w w':World} (k:z5n O O' w w') (hρ:∀ id L,ρ id=some L→ρ' id=some L) {L:Loc} {o:AO}
  (hb:w'.heap[L.blk]?=w.heap[L.blk]?) (h:z17 P ρ O w L o):z17 P ρ' O' w' L o:=by
 cases o with
 |dead=>trivial
 |box cells=>
  obtain ⟨c,t,hc,hj⟩:=h
  refine ⟨c,t,hb▸hc,fun j x hx=>?_⟩
  obtain ⟨v,hv,hr⟩:=hj j x hx
  exact ⟨v,hv,hr.keep k hρ⟩
 |row es=>
  obtain ⟨hz,c,t,hc,hl,hj⟩:=h
  refine ⟨hz,c,t,hb▸hc,hl,fun i r j x hi hx=>?_⟩
  obtain ⟨v,hv,h1,hr⟩:=hj i r j x hi hx
  exact ⟨v,hv,h1,hr.keep k⟩
 |arow es=>
  obtain ⟨hz,c,t,hc,hl,hj⟩:=h
  refine ⟨hz,c,t,hb▸hc,hl,fun i r j x hi hx=>?_⟩
  obtain ⟨v,hv,h1,hr⟩:=hj i r j x hi hx
  exact ⟨v,hv,h1,hr.keep k hρ⟩
 |map es=>
  obtain ⟨en,clk,hc,hl,hj⟩:=h
  refine ⟨en,clk,hb▸hc,hl,fun i kk x hx=>?_⟩
  obtain ⟨e,he,h1,h2⟩:=hj i kk x hx
  exact ⟨e,he,h1.keep k,h2.keep k⟩
 |loop st pd g pos nt env=>
  obtain ⟨x,ps,asg,body,hcd,tm,ds,f,hc,hl,hj⟩:=h
  exact ⟨x,ps,asg,body,hcd,tm,ds,f,hb▸hc,hl,fun t=>(hj t).keep k hρ⟩
structure Ext (S:Nat→Prop) (ρ:Rho) (h:List AO) (w:World) (ρ':Rho) (h':List AO) (w':World):Prop where
 os:w'.os=w.os
 tape:w'.tape=w.tape
 output:w'.output=w.output
 keep:z5n (z0i ρ h) (z0i ρ' h') w w'
 rho:∀ id,S id→ρ' id=ρ id
 fr:ρ'.fr=ρ.fr
 frs:∀ b,ρ.fr b→w'.heap[b]?=w.heap[b]?
theorem Ext.refl (S:Nat→Prop) (ρ:Rho) (h:List AO) (w:World):Ext S ρ h w ρ h w:=⟨rfl,rfl,rfl,z5n.refl _ _,fun _ _=>rfl,rfl,fun _ _=>rfl⟩
theorem z5n.trans {O O' O'':Nat→Prop} {w w' w'':World} (a:z5n O O' w w') (b:z5n O' O'' w' w''):z5n O O'' w w'' where
 size:=Nat.le_trans a.size b.size
 frame:=fun k hk ho=>by
  rw [b.frame k (Nat.lt_of_lt_of_le hk a.size) (fun h=>ho (a.own k hk h))]
  exact a.frame k hk ho
 own:=fun k hk h=>a.own k hk (b.own k (Nat.lt_of_lt_of_le hk a.size) h)
 shape:=fun k n h=>b.shape _ _ (a.shape _ _ h)
 drawn:=z00.trans a.drawn b.drawn
theorem Ext.trans {S:Nat→Prop} {ρ ρ' ρ'':Rho} {h h' h'':List AO} {w w' w'':World} (a:Ext S ρ h w ρ' h' w') (b:Ext S ρ' h' w' ρ'' h'' w''):Ext S ρ h w ρ'' h'' w'':=
 ⟨b.os.trans a.os,b.tape.trans a.tape,b.output.trans a.output,a.keep.trans b.keep,fun id hs=>(b.rho id hs).trans (a.rho id hs),b.fr.trans a.fr,
  fun k hk=>(b.frs k (by rw [a.fr]; exact hk)).trans (a.frs k hk)⟩
theorem Ext.mono {S S':Nat→Prop} {ρ ρ':Rho} {h h':List AO} {w w':World} (hs:∀ id,S' id→S id) (a:Ext S ρ h w ρ' h' w'):Ext S' ρ h w ρ' h' w':=
 ⟨a.os,a.tape,a.output,a.keep,fun id h=>a.rho id (hs id h),a.fr,a.frs⟩
theorem Ext.drawn (S:Nat→Prop) (ρ:Rho) (h:List AO) (w:World) (n:Nat) (hn:z00 w.drawn n):Ext S ρ h w ρ h { w with drawn:=n }:=
 ⟨rfl,rfl,rfl,⟨Nat.le_refl _,fun _ _ _=>rfl,fun _ _ h=>h,fun _ _ h=>h,hn⟩,fun _ _=>rfl,rfl,fun _ _=>rfl⟩
theorem z0c.of_keep {ρ:Rho} {h:List AO} {w w':World} (hr:z0c P ρ h w) (k:z5n (z0i ρ h) (z0i ρ h) w w') (hb:∀ b,z0i ρ h b→w'.heap[b]?=w.heap[b]?):z0c P ρ h w' where
 obj:=fun id L hL=>by
  obtain ⟨h1,h2⟩:=hr.obj id L hL
  refine ⟨Nat.lt_of_lt_of_le h1 k.size,?_⟩
  by_cases hl:(z0j h id).live=true
  ·exact h2.keep k (fun _ _ h=>h) (hb _ (.inr ⟨id,L,hL,hl,rfl⟩))
  ·cases ho:z0j h id<;>simp_all [AO.live,z17]
 inj:=hr.inj
 fr:=fun b hf=>Nat.lt_of_lt_of_le (hr.fr b hf) k.size
 sep:=hr.sep
theorem z0c.drawn {ρ:Rho} {h:List AO} {w:World} (hr:z0c P ρ h w) (n:Nat) (hn:z00 w.drawn n):z0c P ρ h { w with drawn:=n }:=
 hr.of_keep (Ext.drawn (fun _=>True) ρ h w n hn).keep (fun _ _=>rfl)
def Rho.put (ρ:Rho) (id:Nat) (L:Loc):Rho:=⟨fun j=>if j=id then some L else ρ j,ρ.fr⟩
theorem Rho.put_same (ρ:Rho) (id:Nat) (L:Loc):ρ.put id L id=some L:=by simp [Rho.put]
theorem Rho.put_ne (ρ:Rho) (id j:Nat) (L:Loc) (h:j≠id):ρ.put id L j=ρ j:=by simp [Rho.put,h]
theorem Rho.put_mono (ρ:Rho) (id:Nat) (L:Loc) (h:ρ id=none):∀ j M,ρ j=some M→ρ.put id L j=some M:=by
 intro j M hj
 rw [Rho.put_ne]
 ·exact hj
 ·rintro rfl; rw [h] at hj; cases hj
def World.push (w:World) (o:Obj):World:={ w with heap:=w.heap.push o }
theorem z5v (w:World) (o:Obj) (b:Nat) (hb:b<w.heap.size):(World.push w o).heap[b]?=w.heap[b]?:=by
 show (w.heap.push o)[b]?=_
 rw [Array.getElem?_push,if_neg (by omega)]
theorem z3o (w:World) (o:Obj):(World.push w o).heap[w.heap.size]?=some o:=by
 show (w.heap.push o)[w.heap.size]?=_
 simp
theorem z7h (w:World) (o:Obj):(World.push w o).heap.size=w.heap.size+1:=by
 show (w.heap.push o).size=_
 simp
theorem y9q {w:World} {b n:Nat} (h:z1v w b=some n):b<w.heap.size:=by
 unfold z1v at h
 cases hb:w.heap[b]? with
 |none=>simp [hb] at h
 |some o=>exact (Array.getElem?_eq_some_iff.1 hb).1
theorem x1c {ρ:Rho} {h:List AO} {w:World} (hr:z0c P ρ h w) {new:Nat} (hn:ρ new=none) (L:Loc) (o:AO) (b:Nat):
  z0i (ρ.put new L) (z1i h new o) b→z0i ρ h b∨b=L.blk:=by
 rintro (hf|⟨id,M,hM,hl,rfl⟩)
 ·exact .inl (.inl hf)
 ·by_cases he:id=new
  ·subst he; rw [Rho.put_same] at hM; cases hM; exact .inr rfl
  ·rw [Rho.put_ne _ _ _ _ he] at hM; rw [z0g _ _ _ _ (Ne.symm he)] at hl; exact .inl (.inr ⟨id,M,hM,hl,rfl⟩)
theorem z95 {ρ:Rho} {h:List AO} {w:World} (hr:z0c P ρ h w) {b:Nat} (hb:z0i ρ h b):b<w.heap.size:=by
 rcases hb with hf|⟨id,L,hL,_,rfl⟩
 ·exact hr.fr b hf
 ·exact (hr.obj id L hL).1
theorem z7p {ρ:Rho} {h:List AO} {w:World} (hr:z0c P ρ h w) {new:Nat} (hn:ρ new=none) (L:Loc) (o:AO) (x:Obj) (hL:L.blk=w.heap.size):
  z5n (z0i ρ h) (z0i (ρ.put new L) (z1i h new o)) w (World.push w x) where
 size:=by rw [z7h]; omega
 frame:=fun b hb _=>z5v _ _ _ hb
 own:=fun b hb ho=>by
  rcases x1c hr hn L o b ho with h|h
  ·exact h
  ·omega
 shape:=fun b n hb=>by
  have:=y9q hb
  unfold z1v; rw [z5v _ _ _ this]; exact hb
 drawn:=z00.refl _
theorem z0c.new {ρ:Rho} {h:List AO} {w:World} (hr:z0c P ρ h w) {new:Nat} (hn:ρ new=none) (esz:Nat) (o:AO) (x:Obj)
  (ho:z17 P (ρ.put new ⟨w.heap.size,0,esz⟩) (z0i (ρ.put new ⟨w.heap.size,0,esz⟩) (z1i h new o)) (World.push w x) ⟨w.heap.size,0,esz⟩ o):
  z0c P (ρ.put new ⟨w.heap.size,0,esz⟩) (z1i h new o) (World.push w x) where
 obj:=fun id L hL=>by
  by_cases he:id=new
  ·subst he
   rw [Rho.put_same] at hL; cases hL
   rw [z0m]
   exact ⟨by rw [z7h]; simp,ho⟩
  ·rw [Rho.put_ne _ _ _ _ he] at hL
   obtain ⟨h1,h2⟩:=hr.obj id L hL
   rw [z0g _ _ _ _ (Ne.symm he)]
   exact ⟨by rw [z7h]; omega,h2.keep (z7p hr hn _ o x rfl) (Rho.put_mono _ _ _ hn) (z5v _ _ _ h1)⟩
 inj:=fun id id' L L' h1 h2 l1 l2 hb=>by
  by_cases e1:id=new
  ·subst e1
   by_cases e2:id'=id
   ·exact e2.symm
   ·rw [Rho.put_same] at h1; cases h1
    rw [Rho.put_ne _ _ _ _ e2] at h2
    have:=(hr.obj id' L' h2).1
    simp at hb; omega
  ·by_cases e2:id'=new
   ·subst e2
    rw [Rho.put_same] at h2; cases h2
    rw [Rho.put_ne _ _ _ _ e1] at h1
    have:=(hr.obj id L h1).1
    simp at hb; omega
   ·rw [Rho.put_ne _ _ _ _ e1] at h1
    rw [Rho.put_ne _ _ _ _ e2] at h2
    rw [z0g _ _ _ _ (Ne.symm e1)] at l1
    rw [z0g _ _ _ _ (Ne.symm e2)] at l2
    exact hr.inj id id' L L' h1 h2 l1 l2 hb
 fr:=fun b hf=>by rw [z7h]; have:=hr.fr b hf; omega
 sep:=fun id L hL hl hf=>by
  by_cases he:id=new
  ·subst he; rw [Rho.put_same] at hL; cases hL
   have:=hr.fr _ hf; simp at this
  ·rw [Rho.put_ne _ _ _ _ he] at hL; rw [z0g _ _ _ _ (Ne.symm he)] at hl
   exact hr.sep id L hL hl hf
theorem Ext.new {ρ:Rho} {h:List AO} {w:World} (hr:z0c P ρ h w) {new:Nat} (hn:ρ new=none) (L:Loc) (o:AO) (x:Obj) (hL:L.blk=w.heap.size):
  Ext (fun id=>id≠new) ρ h w (ρ.put new L) (z1i h new o) (World.push w x):=
 ⟨rfl,rfl,rfl,z7p hr hn L o x hL,fun id hid=>Rho.put_ne _ _ _ _ hid,rfl,fun b hf=>z5v _ _ _ (hr.fr b hf)⟩
theorem y7c (O:Nat→Prop) (w:World) (x:Obj) (hO:∀ b,O b→b<w.heap.size):z5n O O w (World.push w x) where
 size:=by rw [z7h]; omega
 frame:=fun b hb _=>z5v _ _ _ hb
 own:=fun b hb ho=>ho
 shape:=fun b n hb=>by
  have:=y9q hb
  unfold z1v; rw [z5v _ _ _ this]; exact hb
 drawn:=z00.refl _
theorem z0c.push0 {ρ:Rho} {h:List AO} {w:World} (hr:z0c P ρ h w) (x:Obj):z0c P ρ h (World.push w x):=
 hr.of_keep (y7c _ _ _ fun _=>z95 hr) fun b hb=>z5v _ _ _ (z95 hr hb)
theorem Ext.push0 (S:Nat→Prop) {ρ:Rho} {h:List AO} {w:World} (hr:z0c P ρ h w) (x:Obj):Ext S ρ h w ρ h (World.push w x):=
 ⟨rfl,rfl,rfl,y7c _ _ _ fun _=>z95 hr,fun _ _=>rfl,rfl,fun b hf=>z5v _ _ _ (hr.fr b hf)⟩
def World.setObj (w:World) (b:Nat) (o:Obj):World:={ w with heap:=w.heap.setIfInBounds b o }
theorem z14 (w:World) (b k:Nat) (o:Obj) (h:k≠b):(World.setObj w b o).heap[k]?=w.heap[k]?:=by
 show (w.heap.setIfInBounds b o)[k]?=_
 rw [Array.getElem?_setIfInBounds]; simp [Ne.symm h]
theorem z0z (w:World) (b:Nat) (o:Obj) (h:b<w.heap.size):(World.setObj w b o).heap[b]?=some o:=by
 show (w.heap.setIfInBounds b o)[b]?=_
 rw [Array.getElem?_setIfInBounds]; simp [h]
theorem z13 (w:World) (b:Nat) (o:Obj):(World.setObj w b o).heap.size=w.heap.size:=by
 show (w.heap.setIfInBounds b o).size=_
 simp
theorem y8s {ρ:Rho} {h:List AO} {id:Nat} (o:AO) (hl:(z0j h id).live=true) (ho:o.live=true) (b:Nat):z0i ρ (z1i h id o) b↔z0i ρ h b:=by
 constructor
 ·rintro (hf|⟨j,M,hM,hj,rfl⟩)
  ·exact .inl hf
  by_cases he:j=id
  ·subst he; exact .inr ⟨j,M,hM,hl,rfl⟩
  ·rw [z0g _ _ _ _ (Ne.symm he)] at hj; exact .inr ⟨j,M,hM,hj,rfl⟩
 ·rintro (hf|⟨j,M,hM,hj,rfl⟩)
  ·exact .inl hf
  by_cases he:j=id
  ·subst he; exact .inr ⟨j,M,hM,by rw [z0m]; exact ho,rfl⟩
  ·exact .inr ⟨j,M,hM,by rw [z0g _ _ _ _ (Ne.symm he)]; exact hj,rfl⟩
theorem z2a {ρ:Rho} {h:List AO} {w:World} (hr:z0c P ρ h w) {id:Nat} {L:Loc} (hL:ρ id=some L) (hl:(z0j h id).live=true) (o:AO) (ho:o.live=true) (x:Obj)
  (hs:∀ n,z1v w L.blk=some n→z1v (World.setObj w L.blk x) L.blk=some n):
  z5n (z0i ρ h) (z0i ρ (z1i h id o)) w (World.setObj w L.blk x) where
 size:=by rw [z13]; omega
 frame:=fun b hb hn=>z14 _ _ _ _ (fun e=>hn (e▸ .inr ⟨id,L,hL,hl,rfl⟩))
 own:=fun b _ hb=>(y8s o hl ho b).1 hb
 shape:=fun b n hb=>by
  by_cases he:b=L.blk
  ·subst he; exact hs n hb
  ·unfold z1v; rw [z14 _ _ _ _ he]; exact hb
 drawn:=z00.refl _
theorem z0c.set {ρ:Rho} {h:List AO} {w:World} (hr:z0c P ρ h w) {id:Nat} {L:Loc} (hL:ρ id=some L) (hl:(z0j h id).live=true) (o:AO) (ho:o.live=true) (x:Obj)
  (hs:∀ n,z1v w L.blk=some n→z1v (World.setObj w L.blk x) L.blk=some n)
  (hx:z17 P ρ (z0i ρ (z1i h id o)) (World.setObj w L.blk x) L o):z0c P ρ (z1i h id o) (World.setObj w L.blk x) where
 obj:=fun j M hM=>by
  obtain ⟨h1,h2⟩:=hr.obj j M hM
  refine ⟨by rw [z13]; exact h1,?_⟩
  by_cases he:j=id
  ·subst he; rw [hL] at hM; cases hM; rw [z0m]; exact hx
  ·rw [z0g _ _ _ _ (Ne.symm he)]
   by_cases hlj:(z0j h j).live=true
   ·exact h2.keep (z2a hr hL hl o ho x hs) (fun _ _ h=>h) (z14 _ _ _ _ (fun e=>he (hr.inj j id M L hM hL hlj hl e)))
   ·cases hjo:z0j h j<;>simp_all [AO.live,z17]
 inj:=fun i j M N h1 h2 l1 l2 hb=>by
  refine hr.inj i j M N h1 h2 ?_ ?_ hb
  ·by_cases he:i=id
   ·subst he; exact hl
   ·rwa [z0g _ _ _ _ (Ne.symm he)] at l1
  ·by_cases he:j=id
   ·subst he; exact hl
   ·rwa [z0g _ _ _ _ (Ne.symm he)] at l2
 fr:=fun b hf=>by rw [z13]; exact hr.fr b hf
 sep:=fun j M hM hj hf=>by
  refine hr.sep j M hM ?_ hf
  by_cases he:j=id
  ·subst he; exact hl
  ·rwa [z0g _ _ _ _ (Ne.symm he)] at hj
theorem Ext.set (S:Nat→Prop) {ρ:Rho} {h:List AO} {w:World} (hr:z0c P ρ h w) {id:Nat} {L:Loc} (hL:ρ id=some L) (hl:(z0j h id).live=true) (o:AO) (ho:o.live=true) (x:Obj)
  (hs:∀ n,z1v w L.blk=some n→z1v (World.setObj w L.blk x) L.blk=some n):Ext S ρ h w ρ (z1i h id o) (World.setObj w L.blk x):=
 ⟨rfl,rfl,rfl,z2a hr hL hl o ho x hs,fun _ _=>rfl,rfl,fun b hf=>z14 _ _ _ _ (fun e=>hr.sep id L hL hl (e▸hf))⟩
theorem x1d {ρ:Rho} {h:List AO} {id:Nat} (b:Nat) (hb:z0i ρ (z1i h id .dead) b):z0i ρ h b:=by
 rcases hb with hf|⟨j,M,hM,hj,rfl⟩
 ·exact .inl hf
 by_cases he:j=id
 ·subst he; rw [z0m] at hj; cases hj
 ·rw [z0g _ _ _ _ (Ne.symm he)] at hj; exact .inr ⟨j,M,hM,hj,rfl⟩
theorem z0c.kill {ρ:Rho} {h:List AO} {w:World} (hr:z0c P ρ h w) (id:Nat):z0c P ρ (z1i h id .dead) w where
 obj:=fun j M hM=>by
  obtain ⟨h1,h2⟩:=hr.obj j M hM
  refine ⟨h1,?_⟩
  by_cases he:j=id
  ·subst he; rw [z0m]; trivial
  ·rw [z0g _ _ _ _ (Ne.symm he)]
   exact h2.keep ⟨Nat.le_refl _,fun _ _ _=>rfl,fun b _ hb=>x1d b hb,fun _ _ h=>h,z00.refl _⟩ (fun _ _ h=>h) rfl
 inj:=fun i j M N h1 h2 l1 l2 hb=>by
  refine hr.inj i j M N h1 h2 ?_ ?_ hb
  ·by_cases he:i=id
   ·subst he; rw [z0m] at l1; cases l1
   ·rwa [z0g _ _ _ _ (Ne.symm he)] at l1
  ·by_cases he:j=id
   ·subst he; rw [z0m] at l2; cases l2
   ·rwa [z0g _ _ _ _ (Ne.symm he)] at l2
 fr:=hr.fr
 sep:=fun j M hM hj hf=>by
  refine hr.sep j M hM ?_ hf
  by_cases he:j=id
  ·subst he; rw [z0m] at hj; cases hj
  ·rwa [z0g _ _ _ _ (Ne.symm he)] at hj
theorem Ext.kill (S:Nat→Prop) (ρ:Rho) (h:List AO) (w:World) (id:Nat):Ext S ρ h w ρ (z1i h id .dead) w:=
 ⟨rfl,rfl,rfl,⟨Nat.le_refl _,fun _ _ _=>rfl,fun b _ hb=>x1d b hb,fun _ _ h=>h,z00.refl _⟩,fun _ _=>rfl,rfl,fun _ _=>rfl⟩
end Go.Am
end
section
namespace Go.Am
theorem z26 {α:Type} {l:List α} {i n:Nat} {r:List α} (h:part l i n=some r):r.length=n∧∀ j,j<n→l[i+j]?=r[j]?:=by
 induction l generalizing i n r with
 |nil=>cases i<;>cases n<;>simp [part] at h; subst h; simp
 |cons x l ih=>
  cases i with
  |zero=>cases n with
   |zero=>simp [part] at h; subst h; simp
   |succ n=>
    simp only [part] at h
    cases hp:part l 0 n with
    |none=>simp [hp] at h
    |some q=>
     simp [hp] at h; subst h
     obtain ⟨h1,h2⟩:=ih hp
     refine ⟨by simp [h1],fun j hj=>?_⟩
     cases j with
     |zero=>simp
     |succ j=>have:=h2 j (by omega); simp only [Nat.zero_add] at this⊢; simpa using this
  |succ i=>
   simp only [part] at h
   obtain ⟨h1,h2⟩:=ih h
   refine ⟨h1,fun j hj=>?_⟩
   rw [show i+1+j=(i+j)+1 by omega]
   simpa using h2 j hj
theorem z8u {α:Type} {l xs r:List α} {i:Nat} (h:x63 l i xs=some r):
  r.length=l.length∧i+xs.length≤l.length∧∀ j,r[j]?=if i≤j∧j<i+xs.length then xs[j - i]? else l[j]?:=by
 induction l generalizing i xs r with
 |nil=>cases i<;>cases xs<;>simp [x63] at h; subst h; simp
 |cons y l ih=>
  cases i with
  |zero=>cases xs with
   |nil=>simp [x63] at h; subst h; simp
   |cons x xs=>
    simp only [x63] at h
    cases hp:x63 l 0 xs with
    |none=>simp [hp] at h
    |some q=>
     simp [hp] at h; subst h
     obtain ⟨h1,h2,h3⟩:=ih hp
     refine ⟨by simp [h1],by simp at h2⊢; omega,fun j=>?_⟩
     cases j with
     |zero=>simp
     |succ j=>
      have:=h3 j
      simp only [List.getElem?_cons_succ,this,List.length_cons]
      by_cases hj:j<xs.length
      ·rw [if_pos ⟨by omega,by omega⟩,if_pos ⟨by omega,by omega⟩]; simp
      ·rw [if_neg (by omega),if_neg (by omega)]
  |succ i=>
   simp only [x63] at h
   cases hp:x63 l i xs with
   |none=>simp [hp] at h
   |some q=>
    simp [hp] at h; subst h
    obtain ⟨h1,h2,h3⟩:=ih hp
    refine ⟨by simp [h1],by simp at h2⊢; omega,fun j=>?_⟩
    cases j with
    |zero=>rw [if_neg (by omega)]; simp
    |succ j=>
     have:=h3 j
     simp only [List.getElem?_cons_succ,this]
     by_cases hj:i≤j∧j<i+xs.length
     ·rw [if_pos hj,if_pos (by omega)]; congr 1; omega
     ·rw [if_neg hj,if_neg (by omega)]
theorem z7m {α:Type} {l:List α} {n:Nat} (h:z7n l n=true):l.length=n:=by
 induction l generalizing n with
 |nil=>cases n<;>simp [z7n] at h⊢
 |cons x l ih=>cases n with
  |zero=>simp [z7n] at h
  |succ n=>simpa using ih (by simpa [z7n] using h)
theorem z1z {α:Type} (l:List α) (i:Nat):z2k l i=l[i]?:=by
 induction l generalizing i with
 |nil=>simp [z2k]
 |cons x l ih=>cases i<;>simp [z2k,ih]
theorem z1y (l:List D) (j:Nat):(toA l)[j]?=(l[j]?).map AV.d:=by
 induction l generalizing j with
 |nil=>simp [toA]
 |cons x l ih=>cases j<;>simp [toA,ih]
theorem z08 (l:List D):(toA l).length=l.length:=by
 induction l with
 |nil=>rfl
 |cons x l ih=>simp [toA,ih]
theorem z2m {l:List AV} {ds:List D} (h:x2s l=some ds):l=toA ds:=by
 induction l generalizing ds with
 |nil=>simp [x2s] at h; subst h; rfl
 |cons x l ih=>
  cases x<;>simp only [x2s] at h<;>try (cases h; done)
  cases hq:x2s l with
  |none=>simp [hq] at h
  |some q=>simp [hq] at h; subst h; simp [toA,ih hq]
theorem z20 (env:List (Nat×AV)) (l:List Operand):z1x env l=l.map (z0x env):=by
 induction l with
 |nil=>rfl
 |cons x l ih=>simp [z1x,ih]
theorem x57 {v:Value} {d:D} (h:v4c v=some d) (O:Nat→Prop) (w:World):z12 O w d v:=by
 unfold v4c at h
 split at h<;>cases h
 ·exact .bool _
 ·exact .int _ _
 ·exact .str _
 ·exact .lnil _ _ _ _ (fun _=>rfl)
 ·exact .nilp
 ·exact .nilm
 ·exact .nilf
 ·exact .nili
theorem z7r {l:List Value} {ds:List D} (h:y1l l=some ds):ds.length=l.length∧∀ (O:Nat→Prop) (w:World) (j:Nat) (d:D),ds[j]?=some d→∃ v,l[j]?=some v∧z12 O w d v:=by
 induction l generalizing ds with
 |nil=>simp [y1l] at h; subst h; simp
 |cons v l ih=>
  simp only [y1l] at h
  cases h1:v4c v with
  |none=>simp [h1] at h
  |some d=>
   cases h2:y1l l with
   |none=>simp [h1,h2] at h
   |some q=>
    simp [h1,h2] at h; subst h
    obtain ⟨e1,e2⟩:=ih h2
    refine ⟨by simp [e1],fun O w j x hx=>?_⟩
    cases j with
    |zero=>simp at hx; subst hx; exact ⟨v,by simp,x57 h1 O w⟩
    |succ j=>simpa using e2 O w j x (by simpa using hx)
theorem x58 {v:Value} {d:D} (h:v7b v=some d) (O:Nat→Prop) (w:World):z12 O w d v:=by
 unfold v7b at h
 split at h
 ·rename_i cs
  cases hq:y1l cs.toList with
  |none=>simp [hq] at h
  |some q=>
   simp [hq] at h; subst h
   obtain ⟨h1,h2⟩:=z7r hq
   refine .agg _ _ (by simp [h1]) fun i d hd=>?_
   obtain ⟨v,hv,hr⟩:=h2 O w i d hd
   have:cs.getD i undef=v:=by
    have:cs[i]?=some v:=by simpa using hv
    simp [Array.getD_eq_getD_getElem?,this]
   rw [this]; exact hr
 ·exact x57 h O w
def u2p (P:Program) (d:TypeDesc):TK→Prop
 | .int k=>d= .int k
 | .bool=>d= .bool
 | .str=>d= .string
 | .struct l=>∃ fs,d= .struct fs∧l.length=fs.size∧∀ (i:Nat) (x:Nat×Nat×Bool),l[i]?=some x→∃ f:Field,fs[i]?=some f∧f.offset=x.1∧z8q P f.type=some x.2.1∧z3u P f.type=some x.2.2
 | .arr m s a=>∃ e,d= .array m e∧z8q P e=some s∧z3u P e=some a
 | .slc e s b a z=>d= .slice e∧z8q P e=some s∧y0t P e=some b∧z3u P e=some a∧y36 P e=some z∧z.length=s
 | .ptr (some (n,s))=>∃ e e',d= .pointer e∧P.underlying e=some (.array n e')∧z8q P e'=some s
 | .ptr none=>∃ e,d= .pointer e
 | .map ks a z=>∃ k e,d= .map k e∧flatK P 8 k=some ks∧z3u P k=some a∧x8r P e=some z∧P.eqGuardType P.depth k=false
 | .func=>∃ a b c,d= .func a b c
 | .iface=>∃ ms,d= .interface ms
 |_=>True
structure z8m (P:Program) (t:TypeId) (ti:TI):Prop where
 size:z8q P t=some ti.size
 bytes:y0t P t=some ti.bytes
 agg:z3u P t=some ti.agg
 zero:∃ i z,P.info? t=some i∧i.zero=some z∧y1l z.cells.toList=some ti.zero∧ti.zero.length=ti.size∧(ti.agg=true→∃ cs,z= .agg cs)∧(ti.agg=false→∀ cs,z≠ .agg cs)
 desc:∃ d,P.underlying t=some d∧z64 d=ti.agg∧u2p P d ti.desc
 eqk:∀ ks,ti.eqk=some ks→flatK P 8 t=some ks∧P.eqGuardType P.depth t=false
theorem y85 {P:Program} {fs:List Field} {l:List (Nat×Nat×Bool)} (h:fieldsOf P fs=some l):
  l.length=fs.length∧∀ (i:Nat) (x:Nat×Nat×Bool),l[i]?=some x→∃ f:Field,fs[i]?=some f∧f.offset=x.1∧z8q P f.type=some x.2.1∧z3u P f.type=some x.2.2:=by
 induction fs generalizing l with
 |nil=>simp [fieldsOf] at h; subst h; simp
 |cons f fs ih=>
  simp only [fieldsOf] at h
  split at h
  ·rename_i s a q h1 h2 h3
   cases h
   obtain ⟨e1,e2⟩:=ih h3
   refine ⟨by simp [e1],fun i x hx=>?_⟩
   cases i with
   |zero=>simp at hx; subst hx; exact ⟨f,by simp,rfl,h1,h2⟩
   |succ i=>simpa using e2 i x (by simpa using hx)
  ·cases h
theorem w7t {P:Program} {d:TypeDesc} {k:TK} (h:v7z P d=some k):u2p P d k:=by
 unfold v7z at h
 split at h
 ·cases h; exact rfl
 ·cases h; exact rfl
 ·cases h; exact rfl
 ·rename_i fs
  cases hq:fieldsOf P fs.toList with
  |none=>simp [hq] at h
  |some q=>simp [hq] at h; subst h; exact ⟨fs,rfl,by simpa using y85 hq⟩
 ·split at h
  ·cases h; exact ⟨_,rfl, ‹_›, ‹_›⟩
  ·cases h
 ·split at h
  ·rename_i hc1 hc2 hc3 hc4
   split at h
   ·cases h; exact ⟨rfl,hc1,hc3,hc2,hc4, ‹_›⟩
   ·cases h
  ·cases h
 ·rename_i e
  split at h
  ·rename_i n e' he
   cases hq:z8q P e' with
   |none=>simp [hq] at h
   |some s=>simp [hq] at h; subst h; exact ⟨e,e',rfl,he,hq⟩
  ·cases h; exact ⟨e,rfl⟩
 ·split at h
  ·cases h; exact ⟨_,_,rfl, ‹_›, ‹_›, ‹_›, ‹_›⟩
  ·cases h; trivial
 ·cases h; exact ⟨_,_,_,rfl⟩
 ·cases h; exact ⟨_,rfl⟩
 ·cases h; trivial
theorem x9w {P:Program} {t:TypeId} {ti:TI} (h:v63 P t=some ti):z8m P t ti:=by
 unfold v63 at h
 split at h
 ·rename_i i d hi hd
  split at h
  ·rename_i z hz
   split at h
   ·rename_i zs k hzs hk
    split at h
    ·rename_i hc
     cases h
     simp only [Bool.and_eq_true,beq_iff_eq] at hc
     refine ⟨by simp [z8q,hi],by simp [y0t,hi],by simp [z3u,hd],⟨i,z,hi,hz,hzs,hc.2,?_,?_⟩,⟨d,hd,rfl,w7t hk⟩,?_⟩
     ·intro ha; have h1:x95 z=true:=by rw [←hc.1]; exact ha
      cases z<;>first|exact ⟨_,rfl⟩|cases h1
     ·intro ha cs hcs; have h1:x95 z=false:=by rw [←hc.1]; exact ha
      rw [hcs] at h1; cases h1
     ·intro ks hks
      simp only at hks
      split at hks
      ·cases hks
      ·rename_i hg; exact ⟨hks,by simpa using hg⟩
    ·cases h
   ·cases h
  ·cases h
 ·cases h
def y1v (P:Program) (T:TypeId→Option TI):Prop:=∀ t ti,T t=some ti→z8m P t ti
section
variable {P:Program}
theorem z1m {t:TypeId} {n:Nat} (h:z8q P t=some n) (w:World):(sizeOf t).run P w= .ok n w:=by
 unfold z8q at h
 cases hi:P.info? t with
 |none=>simp [hi] at h
 |some i=>simp [hi] at h; simp [sizeOf,typeInfo,hi,h]
theorem y8m {t:TypeId} {b:Bool} (h:z3u P t=some b) (w:World):(isAgg t).run P w= .ok b w:=by
 unfold z3u at h
 cases hd:P.underlying t with
 |none=>simp [hd] at h
 |some d=>simp [hd] at h; cases d<;>simp [isAgg,underlying,hd,z64] at h⊢ <;>exact h
theorem z0h {t:TypeId} {d:TypeDesc} (h:P.underlying t=some d) (w:World):(underlying t).run P w= .ok d w:=by
 simp [underlying,h]
theorem z49 (b o n:Nat):(⟨b,o,none⟩:Addr).add n=⟨b,o+n,none⟩:=by unfold Addr.add; split<;>simp_all
theorem z3h {t:TypeId} {n:Nat} {agg:Bool} (hs:z8q P t=some n) (ha:z3u P t=some agg) (w:World) (b o:Nat) (cs:List Value) (hl:cs.length=n)
  (hc:∀ j v,cs[j]?=some v→w.cell? ⟨b,o+j,none⟩=some v) (v:Value) (hv:if agg then v= .agg cs.toArray else cs=[v]):
  (loadVar t ⟨b,o,none⟩).run P w= .ok v w:=by
 have hcs:(loadCells ⟨b,o,none⟩ n).run P w= .ok cs.toArray w:=by
  have:=run_loadCells_list (P:=P) w ⟨b,o,none⟩ cs (fun j v hv=>by rw [z49]; exact hc j v hv)
  rwa [hl] at this
 cases agg with
 |true=>
  simp at hv; subst hv
  simp [loadVar,y8m ha,z1m hs,hcs]
 |false=>
  simp at hv; subst hv
  have:=hc 0 v (by simp)
  simp at this
  simp [loadVar,y8m ha,this]
end
def z1q (h:List AO):List (Nat×AO)→List AO
 |[]=>h
 |(i,o)::r=>z1q (z1i h i o) r
def z0r (P:Program) (ρ:Rho) (h:List AO) (w:World) (new:Nat) (s:Sem Value) (r:Res):Prop:=
 ∃ v w' ρ',s.run P w= .ok v w'∧z0t ρ' (z0i ρ' (z1q h r.u)) w' r.v v∧z0c P ρ' (z1q h r.u) w'∧
  Ext (fun id=>id≠new) ρ h w ρ' (z1q h r.u) w'∧(ρ'=ρ∨∃ o,(new,o)∈r.u)
theorem z0r.pure {P:Program} {ρ:Rho} {h:List AO} {w:World} {new:Nat} {s:Sem Value} {x:AV} {v:Value} {c:Bool} (hr:z0c P ρ h w)
  (hs:s.run P w= .ok v w) (hv:z0t ρ (z0i ρ h) w x v):z0r P ρ h w new s ⟨c,x,[]⟩:=
 ⟨v,w,ρ,hs,hv,hr,Ext.refl _ _ _ _, .inl rfl⟩
theorem z8a {α:Type} {c:Array α} {i:Nat} {v d:α} (h:c[i]?=some v):c.getD i d=v:=by simp [Array.getD_eq_getD_getElem?,h]
theorem z5l {w:World} {b o:Nat} {c:Array Value} {t:TypeId} {f:Nat×Nat} {v:Value} (h:w.heap[b]?=some (.cells c t f)) (hv:c[o]?=some v):w.cell? ⟨b,o,none⟩=some v:=by
 simp [World.cell?,h,hv]
theorem z4x {ρ:Rho} {O:Nat→Prop} {w:World} {agg:Bool} {l:List AV} {x:AV} (h:z6e agg l=some x) (cs:List Value) (hl:cs.length=l.length)
  (hc:∀ (j:Nat) (y:AV) (v:Value),l[j]?=some y→cs[j]?=some v→z0t ρ O w y v):∃ v,(if agg then v= .agg cs.toArray else cs=[v])∧z0t ρ O w x v:=by
 have key:∀ (i:Nat) (y:AV),l[i]?=some y→z0t ρ O w y (cs.toArray.getD i undef):=by
  intro i y hy
  have hi:i<cs.length:=by rw [hl]; exact (List.getElem?_eq_some_iff.1 hy).1
  have hcs:cs[i]?=some cs[i]:=List.getElem?_eq_getElem hi
  have:=hc i y _ hy hcs
  rw [show cs.toArray.getD i undef=cs[i] by simp [Array.getD_eq_getD_getElem?,hcs]]
  exact this
 cases agg with
 |true=>
  refine ⟨.agg cs.toArray,by simp,?_⟩
  simp only [z6e] at h
  cases hq:x2s l with
  |none=>simp [hq] at h; subst h; exact .agg _ _ (by simp [hl]) key
  |some ds=>
   simp [hq] at h; subst h
   have e:=z2m hq
   refine .d (.agg _ _ (by simp [hl,e,z08]) fun i d hd=>?_)
   have:=key i (.d d) (by rw [e,z1y,hd]; rfl)
   cases this; assumption
 |false=>
  simp only [z6e] at h
  split at h
  ·cases h
   cases cs with
   |nil=>simp at hl
   |cons v r=>
    cases r with
    |nil=>exact ⟨v,by simp,hc 0 _ v (by simp) (by simp)⟩
    |cons _ _=>simp at hl
  ·cases h
theorem z3j {ρ:Rho} {O:Nat→Prop} {w:World} {agg:Bool} {l:List D} {x:AV} (h:z43 agg l=some x) (cs:List Value) (hl:cs.length=l.length)
  (hc:∀ (j:Nat) (y:D) (v:Value),l[j]?=some y→cs[j]?=some v→z12 O w y v):∃ v,(if agg then v= .agg cs.toArray else cs=[v])∧z0t ρ O w x v:=by
 have key:∀ (i:Nat) (y:D),l[i]?=some y→z12 O w y (cs.toArray.getD i undef):=by
  intro i y hy
  have hi:i<cs.length:=by rw [hl]; exact (List.getElem?_eq_some_iff.1 hy).1
  have hcs:cs[i]?=some cs[i]:=List.getElem?_eq_getElem hi
  have:=hc i y _ hy hcs
  rw [show cs.toArray.getD i undef=cs[i] by simp [Array.getD_eq_getD_getElem?,hcs]]
  exact this
 cases agg with
 |true=>
  refine ⟨.agg cs.toArray,by simp,?_⟩
  simp only [z43] at h; cases h
  exact .d (.agg _ _ (by simp [hl]) key)
 |false=>
  simp only [z43] at h
  split at h
  ·cases h
   cases cs with
   |nil=>simp at hl
   |cons v r=>
    cases r with
    |nil=>exact ⟨v,by simp, .d (hc 0 _ v (by simp) (by simp))⟩
    |cons _ _=>simp at hl
  ·cases h
theorem z41 {α:Type} {R:α→Value→Prop} (f:Nat→Option Value) (l:List α) (h:∀ (j:Nat) (x:α),l[j]?=some x→∃ v,f j=some v∧R x v):
  ∃ cs:List Value,cs.length=l.length∧(∀ (j:Nat) (v:Value),cs[j]?=some v→f j=some v)∧∀ (j:Nat) (x:α) (v:Value),l[j]?=some x→cs[j]?=some v→R x v:=by
 induction l generalizing f with
 |nil=>exact ⟨[],rfl,by simp,by simp⟩
 |cons a l ih=>
  obtain ⟨v,hv,hr⟩:=h 0 a (by simp)
  obtain ⟨cs,h1,h2,h3⟩:=ih (fun j=>f (j+1)) (fun j x hx=>h (j+1) x (by simpa using hx))
  refine ⟨v::cs,by simp [h1],fun j u hu=>?_,fun j x u hx hu=>?_⟩
  ·cases j with
   |zero=>simp at hu; subst hu; exact hv
   |succ j=>exact h2 j u (by simpa using hu)
  ·cases j with
   |zero=>simp at hx hu; subst hx; subst hu; exact hr
   |succ j=>exact h3 j x u (by simpa using hx) (by simpa using hu)
def x2l (h:List AO) (a:AV) (r:List D) (ra:List AV):Prop:=
 match a with
 | .bptr id off=>∀ es,z0j h id= .row es→y54 es off r
 | .wptr es off=>y54 es off r
 | .ptr id i _=>(∀ es,z0j h id= .row es→w15 es i r)∧(∀ es,z0j h id= .arow es→es[i]?=some ra)
 |_=>True
theorem z23 {x:Option AV} {r:Res} (h:x.bind ok=some r):∃ v,x=some v∧r=⟨true,v,[]⟩:=by
 cases x with
 |none=>cases h
 |some v=>simp [ok] at h; exact ⟨v,rfl,h.symm⟩
theorem y0s {P:Program} {ρ:Rho} {O:Nat→Prop} {w:World} {L:Loc} {es:List (List D)} (ho:z17 P ρ O w L (.row es)) {off:Nat} {r:List D} (hc:y54 es off r) {c:Array Value} {t:TypeId}
  (hb:w.heap[L.blk]?=some (.cells c t (0,0))) {j:Nat} {x:D} (hx:r[j]?=some x):L.esz=1∧off+j<es.length∧∃ v:Value,c[L.base+off+j]?=some v∧v.oneCell'=true∧z12 O w x v:=by
 obtain ⟨hz,c',t',hb',hl,hj⟩:=ho
 rw [hb] at hb'; cases hb'
 obtain ⟨r0,hr0,hle⟩:=hc j x hx
 have h1:L.esz=1:=by rw [←hl _ _ hr0, ←hle.1]; rfl
 obtain ⟨y,hy,hyle⟩:=hle.2 0 x rfl
 obtain ⟨v,hv,h1v,hrel⟩:=hj _ _ _ _ hr0 hy
 refine ⟨h1,(List.getElem?_eq_some_iff.1 hr0).1,v,?_,h1v,hrel.le hyle⟩
 rw [h1,Nat.mul_one,Nat.add_zero, ←Nat.add_assoc] at hv; exact hv
theorem x24 {P:Program} {T:TypeId} {ti:TI} (ht:z8m P T ti) {ρ:Rho} {h:List AO} {w:World} (hr:z0c P ρ h w) {r:List D} {ra:List AV} {a:AV} {va:Value}
  (ha:z0t ρ (z0i ρ h) w a va) (hrow:x2l h a r ra) {res:Res} (hs:z4b ti h r ra a=some res) (new:Nat):z0r P ρ h w new (Instr.loadAt T va) res:=by
 unfold z4b at hs
 split at hs
 ·
  rename_i id off
  split at hs
  ·rename_i cells hob
   split at hs
   ·rename_i l hp
    obtain ⟨x,hx,rfl⟩:=z23 hs
    cases ha with
    |bptr _ _ L hL=>
     obtain ⟨_,ho⟩:=hr.obj id L hL
     rw [hob] at ho
     obtain ⟨c,t,hc,hj⟩:=ho
     obtain ⟨hl,hg⟩:=z26 hp
     obtain ⟨cs,h1,h2,h3⟩:=z41 (R:=z0t ρ (z0i ρ h) w) (fun j=>c[L.base+off+j]?) l (fun j x hx=>by
      have hj':j<ti.size:=by rw [←hl]; exact (List.getElem?_eq_some_iff.1 hx).1
      obtain ⟨v,hv,hrel⟩:=hj (off+j) x (by rw [hg j hj']; exact hx)
      exact ⟨v,by rw [Nat.add_assoc]; exact hv,hrel⟩)
     obtain ⟨v,hv1,hv2⟩:=z4x hx cs h1 h3
     refine z0r.pure hr ?_ hv2
     show (loadVar T _).run P w=_
     exact z3h ht.size ht.agg w _ _ cs (h1.trans hl) (fun j v hv=>z5l hc (h2 j v hv)) v hv1
   ·cases hs
  ·rename_i es hob
   cases hn:z7n r ti.size with
   |false=>rw [hn] at hs; cases hs
   |true=>
   rw [hn] at hs
   have hl:=z7m hn
   obtain ⟨x,hx,rfl⟩:=z23 hs
   cases ha with
   |bptr _ _ L hL=>
    obtain ⟨_,ho⟩:=hr.obj id L hL
    rw [hob] at ho
    have ho2:=ho
    obtain ⟨hz,c,t,hc,hlen,hj⟩:=ho
    obtain ⟨cs,h1,h2,h3⟩:=z41 (R:=z12 (z0i ρ h) w) (fun j=>c[L.base+off+j]?) r (fun j x hx=>by
     obtain ⟨_,_,v,hv,_,hrel⟩:=y0s ho2 (hrow es hob) hc hx
     exact ⟨v,hv,hrel⟩)
    obtain ⟨v,hv1,hv2⟩:=z3j (ρ:=ρ) hx cs h1 h3
    refine z0r.pure hr ?_ hv2
    show (loadVar T _).run P w=_
    exact z3h ht.size ht.agg w _ _ cs (h1.trans hl) (fun j v hv=>z5l hc (h2 j v hv)) v hv1
  ·cases hs
 ·
  rename_i id i off
  split at hs
  ·rename_i es hob
   split at hs
   ·rename_i l hp
    obtain ⟨x,hx,rfl⟩:=z23 hs
    cases ha with
    |ptr _ _ _ L hL=>
     obtain ⟨_,ho⟩:=hr.obj id L hL
     rw [hob] at ho
     obtain ⟨hz,c,t,hc,hlen,hj⟩:=ho
     obtain ⟨r0,hri,hrl⟩:=hrow.1 es hob
     obtain ⟨hl,hg⟩:=z26 hp
     obtain ⟨cs,h1,h2,h3⟩:=z41 (R:=z12 (z0i ρ h) w) (fun j=>c[L.base+i*L.esz+off+j]?) l (fun j x hx=>by
      have hj':j<ti.size:=by rw [←hl]; exact (List.getElem?_eq_some_iff.1 hx).1
      obtain ⟨x0,hx0,hle⟩:=hrl.2 (off+j) x (by rw [hg j hj']; exact hx)
      obtain ⟨v,hv,_,hrel⟩:=hj i r0 (off+j) x0 hri hx0
      exact ⟨v,by rw [Nat.add_assoc]; exact hv,hrel.le hle⟩)
     obtain ⟨v,hv1,hv2⟩:=z3j (ρ:=ρ) hx cs h1 h3
     refine z0r.pure hr ?_ hv2
     show (loadVar T _).run P w=_
     exact z3h ht.size ht.agg w _ _ cs (h1.trans hl) (fun j v hv=>z5l hc (h2 j v hv)) v hv1
   ·cases hs
  ·rename_i es hob
   split at hs
   ·rename_i l hp
    obtain ⟨x,hx,rfl⟩:=z23 hs
    cases ha with
    |ptr _ _ _ L hL=>
     obtain ⟨_,ho⟩:=hr.obj id L hL
     rw [hob] at ho
     obtain ⟨hz,c,t,hc,hlen,hj⟩:=ho
     have hri:=hrow.2 es hob
     obtain ⟨hl,hg⟩:=z26 hp
     obtain ⟨cs,h1,h2,h3⟩:=z41 (R:=z0t ρ (z0i ρ h) w) (fun j=>c[L.base+i*L.esz+off+j]?) l (fun j x hx=>by
      have hj':j<ti.size:=by rw [←hl]; exact (List.getElem?_eq_some_iff.1 hx).1
      obtain ⟨v,hv,_,hrel⟩:=hj i ra (off+j) x hri (by rw [hg j hj']; exact hx)
      exact ⟨v,by rw [Nat.add_assoc]; exact hv,hrel⟩)
     obtain ⟨v,hv1,hv2⟩:=z4x hx cs h1 h3
     refine z0r.pure hr ?_ hv2
     show (loadVar T _).run P w=_
     exact z3h ht.size ht.agg w _ _ cs (h1.trans hl) (fun j v hv=>z5l hc (h2 j v hv)) v hv1
   ·cases hs
  ·cases hs
 ·
  rename_i es off
  cases hn:z7n r ti.size with
  |false=>rw [hn] at hs; cases hs
  |true=>
  rw [hn] at hs
  have hl:=z7m hn
  obtain ⟨x,hx,rfl⟩:=z23 hs
  cases ha with
  |wptr _ _ b o z hlt hO hz hc=>
   obtain ⟨cs,h1,h2,h3⟩:=z41 (R:=z12 (z0i ρ h) w) (fun j=>w.cell? ⟨b,o+off+j,none⟩) r (fun j x hx=>by
    obtain ⟨r0,hr0,hle⟩:=hrow j x hx
    have h1:z=1:=by rw [←hz _ _ hr0, ←hle.1]; rfl
    obtain ⟨y,hy,hyle⟩:=hle.2 0 x rfl
    obtain ⟨v,hv,hrel⟩:=hc _ _ _ _ hr0 hy
    refine ⟨v,?_,hrel.le hyle⟩
    rw [h1,Nat.mul_one,Nat.add_zero, ←Nat.add_assoc] at hv; exact hv)
   obtain ⟨v,hv1,hv2⟩:=z3j (ρ:=ρ) hx cs h1 h3
   refine z0r.pure hr ?_ hv2
   show (loadVar T _).run P w=_
   exact z3h ht.size ht.agg w _ _ cs (h1.trans hl) (fun j v hv=>h2 j v hv) v hv1
 ·
  rename_i cells off
  split at hs
  ·rename_i l hp
   obtain ⟨x,hx,rfl⟩:=z23 hs
   cases ha with
   |lptr _ _ b o hlt hO cell hc hr'=>
    obtain ⟨hl,hg⟩:=z26 hp
    obtain ⟨cs,h1,h2,h3⟩:=z41 (R:=z12 (z0i ρ h) w) (fun j=>w.cell? ⟨b,o+off+j,none⟩) l (fun j x hx=>by
     have hj':j<ti.size:=by rw [←hl]; exact (List.getElem?_eq_some_iff.1 hx).1
     have hx':cells[off+j]?=some x:=by rw [hg j hj']; exact hx
     have hlt':off+j<cells.length:=(List.getElem?_eq_some_iff.1 hx').1
     exact ⟨cell (off+j),by rw [Nat.add_assoc]; exact hc _ hlt',hr' _ _ hx'⟩)
    obtain ⟨v,hv1,hv2⟩:=z3j (ρ:=ρ) hx cs h1 h3
    refine z0r.pure hr ?_ hv2
    show (loadVar T _).run P w=_
    exact z3h ht.size ht.agg w _ _ cs (h1.trans hl) (fun j v hv=>h2 j v hv) v hv1
  ·cases hs
 ·cases hs
end Go.Am
end
section
namespace Go.Am
theorem z6v {w:World} {b:Nat} {c cs:Array Value} {t:TypeId} {f:Nat×Nat} (h:w.heap[b]?=some (.cells c t f)):w.setRow b cs=World.setObj w b (.cells cs t f):=by
 have hlt:b<w.heap.size:=(Array.getElem?_eq_some_iff.1 h).1
 unfold World.setRow World.setObj
 congr 1
 apply Array.ext_getElem?
 intro i
 rw [Array.getElem?_modify,Array.getElem?_setIfInBounds]
 by_cases hi:b=i
 ·subst hi; rw [h]; simp [hlt]
 ·simp [hi]
theorem z05 {w:World} {b:Nat} {c:Array Value} {t:TypeId} {f:Nat×Nat} (h:w.heap[b]?=some (.cells c t f)):z1v w b=some c.size:=by
 simp [z1v,h]
theorem y2r {ρ:Rho} {O:Nat→Prop} {w:World} {x:AV} {v:Value} {l:List AV} (h:z2p x=some l) (hv:z0t ρ O w x v):
  v.cells.size=l.length∧∀ (j:Nat) (y:AV),l[j]?=some y→∃ u,v.cells[j]?=some u∧z0t ρ O w y u:=by
 have one:∀ (v:Value),(∀ cs,v≠ .agg cs)→v.cells=#[v]:=by
  intro v hv; cases v<;>first|rfl|exact absurd rfl (hv _)
 have single:∀ (x:AV) (v:Value),z0t ρ O w x v→(∀ cs,v≠ .agg cs)→v.cells.size=[x].length∧∀ (j:Nat) (y:AV),[x][j]?=some y→∃ u,v.cells[j]?=some u∧z0t ρ O w y u:=by
  intro x v hx hn
  rw [one v hn]
  refine ⟨rfl,fun j y hy=>?_⟩
  cases j with
  |zero=>simp at hy; subst hy; exact ⟨v,by simp,hx⟩
  |succ j=>simp at hy
 have hv0:=hv
 cases hv with
 |bot=>simp [z2p] at h
 |d hd=>
  have hd0:=hd
  cases hd with
  |agg ds vs hl hh=>
   simp [z2p] at h; subst h
   refine ⟨by simp [Value.cells,hl,z08],fun j y hy=>?_⟩
   rw [z1y] at hy
   cases hq:ds[j]? with
   |none=>simp [hq] at hy
   |some d=>
    simp [hq] at hy; subst hy
    have hj:j<vs.size:=by rw [hl]; exact (List.getElem?_eq_some_iff.1 hq).1
    have:=hh j d hq
    rw [z8a (Array.getElem?_eq_getElem hj)] at this
    exact ⟨vs[j],by simp [Value.cells,hj], .d this⟩
  |bool b=>simp [z2p] at h; subst h; exact single _ _ hv0 (by simp)
  |int k n=>simp [z2p] at h; subst h; exact single _ _ hv0 (by simp)
  |str s=>simp [z2p] at h; subst h; exact single _ _ hv0 (by simp)
  |nilp=>simp [z2p] at h; subst h; exact single _ _ hv0 (by simp)
  |nilm=>simp [z2p] at h; subst h; exact single _ _ hv0 (by simp)
  |nilf=>simp [z2p] at h; subst h; exact single _ _ hv0 (by simp)
  |nili=>simp [z2p] at h; subst h; exact single _ _ hv0 (by simp)
  |lnil=>simp [z2p] at h; subst h; exact single _ _ hv0 (by simp)
  |list=>simp [z2p] at h; subst h; exact single _ _ hv0 (by simp)
  |ref=>simp [z2p] at h; subst h; exact single _ _ hv0 (by simp)
 |agg xs vs hl hh=>
  simp [z2p] at h; subst h
  refine ⟨by simp [Value.cells,hl],fun j y hy=>?_⟩
  have hj:j<vs.size:=by rw [hl]; exact (List.getElem?_eq_some_iff.1 hy).1
  have:=hh j y hy
  rw [z8a (Array.getElem?_eq_getElem hj)] at this
  exact ⟨vs[j],by simp [Value.cells,hj],this⟩
 |tuple=>simp [z2p] at h
 |bptr=>simp [z2p] at h; subst h; exact single _ _ hv0 (by simp)
 |ptr=>simp [z2p] at h; subst h; exact single _ _ hv0 (by simp)
 |lptr=>simp [z2p] at h; subst h; exact single _ _ hv0 (by simp)
 |wptr=>simp [z2p] at h; subst h; exact single _ _ hv0 (by simp)
 |slice=>simp [z2p] at h; subst h; exact single _ _ hv0 (by simp)
 |nils=>simp [z2p] at h; subst h; exact single _ _ hv0 (by simp)
 |map=>simp [z2p] at h; subst h; exact single _ _ hv0 (by simp)
 |yld=>simp [z2p] at h; subst h; exact single _ _ hv0 (by simp)
 |clo=>simp [z2p] at h; subst h; exact single _ _ hv0 (by simp)
 |iface=>simp [z2p] at h; subst h; exact single _ _ hv0 (by simp)
theorem y1c {ρ:Rho} {O:Nat→Prop} {w:World} {x:AV} {v:Value} (h:w3t x=true) (hv:z0t ρ O w x v):v.oneCell'=true:=by
 cases hv with
 |bot=>simp [w3t] at h
 |d hd=>cases hd<;>first|rfl|simp [w3t] at h
 |agg=>simp [w3t] at h
 |tuple=>simp [w3t] at h
 |_=>rfl
theorem z7o {l:List AV} (h:z6u l=true) {j:Nat} {y:AV} (hy:l[j]?=some y):w3t y=true:=by
 induction l generalizing j with
 |nil=>simp at hy
 |cons x l ih=>
  simp [z6u] at h
  cases j with
  |zero=>simp at hy; subst hy; exact h.1
  |succ j=>exact ih h.2 (by simpa using hy)
theorem x7c {ρ:Rho} {O:Nat→Prop} {w:World} {l:List AV} {v:Value} (h:z6u l=true) (hs:v.cells.size=l.length)
  (hv:∀ (j:Nat) (y:AV),l[j]?=some y→∃ u,v.cells[j]?=some u∧z0t ρ O w y u):∀ u∈v.cells.toList,u.oneCell'=true:=by
 intro u hu
 obtain ⟨j,hj,hju⟩:=List.getElem_of_mem hu
 have hj':j<l.length:=by rw [←hs]; simpa using hj
 obtain ⟨u',hu',hr⟩:=hv j l[j] (List.getElem?_eq_getElem hj')
 have:u'=u:=by
  have h2:v.cells[j]?=some u:=by rw [←hju]; simp [Array.getElem?_eq_getElem (by simpa using hj)]
  rw [h2] at hu'; cases hu'; rfl
 subst this
 exact y1c (z7o h (List.getElem?_eq_getElem hj')) hr
theorem z4s {α:Type} (cur vs:List α) (o j:Nat) (h:o+vs.length≤cur.length):
  (cur.take o++vs++cur.drop (o+vs.length))[j]?=if o≤j∧j<o+vs.length then vs[j - o]? else cur[j]?:=by
 rw [List.append_assoc,List.getElem?_append]
 have ho:(cur.take o).length=o:=by simp; omega
 rw [ho]
 split
 ·rename_i h1
  rw [if_neg (by omega),List.getElem?_take,if_pos h1]
 ·rename_i h1
  rw [List.getElem?_append]
  split
  ·rename_i h2; rw [if_pos (by omega)]
  ·rename_i h2; rw [if_neg (by omega),List.getElem?_drop]; congr 1; omega
theorem z75 {P:Program} {T:TypeId} {n:Nat} (hs:z8q P T=some n) {w:World} {b o:Nat} {c:Array Value} {t:TypeId} (hc:w.heap[b]?=some (.cells c t (0,0)))
  {v:Value} (hn:v.cells.size=n) (h1:∀ u∈v.cells.toList,u.oneCell'=true) (hr:o+n≤c.size):
  (Instr.storeAt T (.pointer (some ⟨b,o,none⟩)) v).run P w= .ok () (World.setObj w b (.cells (c.toList.take o++v.cells.toList++c.toList.drop (o+v.cells.toList.length)).toArray t (0,0))):=by
 have:=run_storeCells_at (P:=P) b o t v.cells.toList 0 c w hc (by simp; omega) h1
 rw [z6v hc] at this
 simp only [Nat.add_zero] at this
 simp [Instr.storeAt,Instr.sureAddr,storeVar,z1m hs,hn,this]
def z4t (s:Sem Unit):Sem Value:=do s; pure undef
theorem y8v (ds:List D) (i:Nat):(x9n ds)[i]?=(ds[i]?).map fun x=>[x]:=by
 induction ds generalizing i with
 |nil=>simp [x9n]
 |cons x l ih=>cases i<;>simp [x9n,ih]
theorem x5a (ds:List D):(x9n ds).length=ds.length:=by
 induction ds with
 |nil=>rfl
 |cons x l ih=>simp [x9n,ih]
theorem x9t {α:Type} (l:List α):x5d l=l.length:=by
 induction l with
 |nil=>rfl
 |cons x l ih=>simp [x5d,ih]
theorem y6t {P:Program} {ρ:Rho} {h:List AO} {w:World} {T:TypeId} {size:Nat} (hsz:z8q P T=some size) (hr:z0c P ρ h w) {id off:Nat} {es:List (List D)} (hob:z0j h id= .row es) {L:Loc} (hL:ρ id=some L) (h1:L.esz=1)
  {cells:List AV} {ds:List D} (hds:x2s cells=some ds) {vx:Value} (hn:vx.cells.size=size) (hlen:cells.length=size) (hone:∀ u∈vx.cells.toList,u.oneCell'=true)
  (hcv:∀ (j:Nat) (y:AV),cells[j]?=some y→∃ u,vx.cells[j]?=some u∧z0t ρ (z0i ρ h) w y u) (hpos:1≤size) (hroom:off+size≤es.length) (es':List (List D))
  (hes:∀ i,es'[i]?=if off≤i∧i<off+ds.length then (ds[i - off]?).map (fun x=>[x]) else es[i]?) (new:Nat):
  z0r P ρ h w new (z4t (Instr.storeAt T (.pointer (some ⟨L.blk,L.base+off,none⟩)) vx)) ⟨true, .bot,[(id, .row es')]⟩:=by
 obtain ⟨_,ho⟩:=hr.obj id L hL
 rw [hob] at ho
 obtain ⟨hz,c,t,hc,hle,hj⟩:=ho
 have hdl:ds.length=cells.length:=by rw [z2m hds,z08]
 have hlast:L.base+off+size≤c.size:=by
  have hlt:off+size - 1<es.length:=by omega
  have hl0:=hle _ _ (List.getElem?_eq_getElem hlt)
  obtain ⟨v,hv,_,_⟩:=hj (off+size - 1) _ 0 _ (List.getElem?_eq_getElem hlt) (List.getElem?_eq_getElem (by omega))
  have:=(Array.getElem?_eq_some_iff.1 hv).1
  rw [h1] at this; omega
 have hrun:=z75 (P:=P) hsz hc hn hone hlast
 have hlive:(z0j h id).live=true:=by rw [hob]; rfl
 have hbs:∀ m,z1v w L.blk=some m→z1v (World.setObj w L.blk (.cells (c.toList.take (L.base+off)++vx.cells.toList++c.toList.drop (L.base+off+vx.cells.toList.length)).toArray t (0,0))) L.blk=some m:=by
  intro m hm
  rw [z05 hc] at hm; cases hm
  rw [z05 (z0z _ _ _ (Array.getElem?_eq_some_iff.1 hc).1)]
  congr 1
  simp; omega
 have hk:=z2a hr hL hlive (.row es') rfl _ hbs
 refine ⟨undef,_,ρ,by simp only [z4t,Sem.run_bind,hrun,Result.andThen_ok,Sem.run_pure], .bot _,hr.set hL hlive _ rfl _ hbs ?_,Ext.set _ hr hL hlive _ rfl _ hbs, .inl rfl⟩
 have hvl:vx.cells.toList.length=cells.length:=by simp; omega
 refine ⟨hz,_,t,z0z _ _ _ (Array.getElem?_eq_some_iff.1 hc).1,fun k q hq=>?_,fun k q j y hq hy=>?_⟩
 ·rw [hes] at hq
  split at hq
  ·cases hd:ds[k - off]? with
   |none=>rw [hd] at hq; cases hq
   |some d=>rw [hd] at hq; cases hq; exact h1.symm
  ·exact hle k q hq
 ·have hsp:=z4s c.toList vx.cells.toList (L.base+off) (L.base+k*L.esz+j) (by simp; omega)
  rw [List.getElem?_toArray]
  rw [hes] at hq
  split at hq
  ·rename_i hin
   cases hd:ds[k - off]? with
   |none=>rw [hd] at hq; cases hq
   |some d=>
    rw [hd] at hq; cases hq
    cases j with
    |succ j=>simp at hy
    |zero=>
     simp at hy; subst hy
     have hy2:cells[k - off]?=some (.d d):=by rw [z2m hds,z1y,hd]; rfl
     obtain ⟨u,hu,hrel⟩:=hcv _ _ hy2
     rw [if_pos (by rw [h1]; omega)] at hsp
     rw [hsp,show L.base+k*L.esz+0 - (L.base+off)=k - off by rw [h1]; omega]
     cases hrel with
     |d hrel=>exact ⟨u,by simpa using hu,hone u (by rw [Array.getElem?_eq_some_iff] at hu; obtain ⟨h1,h2⟩:=hu; rw [←h2]; simp),hrel.keep hk⟩
  ·rename_i hin
   obtain ⟨u,hu,hu1,hrel⟩:=hj k q j y hq hy
   have hqj:j<L.esz:=by rw [←hle k q hq]; exact (List.getElem?_eq_some_iff.1 hy).1
   have hne:¬ (L.base+off≤L.base+k*L.esz+j∧L.base+k*L.esz+j<L.base+off+vx.cells.toList.length):=by
    rintro ⟨g1,g2⟩
    rw [h1] at g1 g2 hqj
    exact hin (by omega)
   rw [if_neg hne] at hsp
   exact ⟨u,by rw [hsp]; simpa using hu,hu1,hrel.keep hk⟩
theorem x0m {P : Program} {T : TypeId} {ti : TI} (ht : z8m P T ti) (p : Prim) (hp : p = std) {ρ : Rho} {h : List AO} {w : World} (hr : z0c P ρ h w) {r : List D} {ra : List AV} {a x : AV} {va vx : Value}
    (ha : z0t ρ (z0i ρ h) w a va) (hx : z0t ρ (z0i ρ h) w x vx) (hrow : x2l h a r ra) {res : Res} (hs : z5b p ti h r ra a x = some res) (hres : res.c = true) (new : Nat) :
    z0r P ρ h w new (z4t (Instr.storeAt T va vx)) res := by
  unfold z5b at hs
  split at hs
  rotate_left
  · cases hs
  rename_i cells hcells
  obtain ⟨hsz, hcv⟩ := y2r hcells hx
  cases hb : (Nat.ble 1 ti.size && (z7n cells ti.size && z6u cells)) with
  | false => rw [hb] at hs; cases hs
  | true =>
  rw [hb] at hs
  simp only [Bool.and_eq_true] at hb
  obtain ⟨hpos, hlen, hlv⟩ := hb
  have hpos := Nat.le_of_ble_eq_true hpos
  have hlen := z7m hlen
  have hone := x7c hlv hsz hcv
  have hn : vx.cells.size = ti.size := hsz.trans hlen
  simp only [cond_true] at hs
  unfold z4p at hs
  split at hs
  ·
    rename_i id off
    split at hs
    · rename_i old hob
      split at hs
      · rename_i l hov
        cases hs
        cases ha with
        | bptr _ _ L hL =>
          obtain ⟨_, ho⟩ := hr.obj id L hL
          rw [hob] at ho
          obtain ⟨c, t, hc, hj⟩ := ho
          obtain ⟨o1, o2, o3⟩ := z8u hov
          have hroom : L.base + off + ti.size ≤ c.size := by
            have hlt : off + ti.size - 1 < old.length := by omega
            obtain ⟨v, hv, _⟩ := hj (off + ti.size - 1) _ (List.getElem?_eq_getElem hlt)
            have := (Array.getElem?_eq_some_iff.1 hv).1
            omega
          have hrun := z75 (P := P) ht.size hc hn hone hroom
          have hlive : (z0j h id).live = true := by rw [hob]; rfl
          have hbs : ∀ m, z1v w L.blk = some m → z1v (World.setObj w L.blk (.cells (c.toList.take (L.base + off) ++ vx.cells.toList ++ c.toList.drop (L.base + off + vx.cells.toList.length)).toArray t (0, 0))) L.blk = some m := by
            intro m hm
            rw [z05 hc] at hm; cases hm
            rw [z05 (z0z _ _ _ (Array.getElem?_eq_some_iff.1 hc).1)]
            congr 1
            simp; omega
          have hk := z2a hr hL hlive (.box l) rfl _ hbs
          refine ⟨undef, _, ρ, by simp only [z4t, Sem.run_bind, hrun, Result.andThen_ok, Sem.run_pure], .bot _, hr.set hL hlive _ rfl _ hbs ?_, Ext.set _ hr hL hlive _ rfl _ hbs, .inl rfl⟩
          refine ⟨_, t, z0z _ _ _ (Array.getElem?_eq_some_iff.1 hc).1, fun j y hy => ?_⟩
          rw [o3 j] at hy
          have hsp := z4s c.toList vx.cells.toList (L.base + off) (L.base + j) (by simp; omega)
          have hvl : vx.cells.toList.length = cells.length := by simpa using hsz
          by_cases hin : off ≤ j ∧ j < off + cells.length
          · rw [if_pos hin] at hy
            obtain ⟨u, hu, hrel⟩ := hcv _ y hy
            refine ⟨u, ?_, hrel.keep hk (fun _ _ h => h)⟩
            rw [if_pos (by omega)] at hsp
            rw [List.getElem?_toArray, hsp, show L.base + j - (L.base + off) = j - off by omega]
            simpa using hu
          · rw [if_neg hin] at hy
            obtain ⟨u, hu, hrel⟩ := hj j y hy
            refine ⟨u, ?_, hrel.keep hk (fun _ _ h => h)⟩
            rw [if_neg (by omega)] at hsp
            rw [List.getElem?_toArray, hsp]
            simpa using hu
      · cases hs
    · rename_i es hob
      subst hp
      cases ha with
      | bptr _ _ L hL =>
        have ho := (hr.obj id L hL).2
        rw [hob] at ho
        have ho2 := ho
        obtain ⟨_, c, t, hc, _, _⟩ := ho
        have hcell := fun x0 hr0 => y0s ho2 (hrow es hob) hc (j := 0) (x := x0) hr0
        split at hs
        · rename_i x1 x0 hds
          cases hs
          obtain ⟨h1, hlt, _⟩ := hcell x0 rfl
          have hsz1 : ti.size = 1 := by rw [← hlen, z2m hds]; rfl
          refine y6t ht.size hr hob hL h1 hds hn hlen hone hcv hpos (by omega) _ (fun i => ?_) new
          simp only [std, List.getElem?_set]
          by_cases hi : off = i
          · subst hi; simp; omega
          · rw [if_neg hi, if_neg (by simp; omega)]
        · rename_i ds x0 _ hds
          cases hs
          obtain ⟨h1, hlt, _⟩ := hcell x0 rfl
          have hdl : ds.length = cells.length := by rw [z2m hds, z08]
          have hroom : off + ds.length ≤ es.length := by
            simp only [std, x9t] at hres
            exact Nat.le_of_ble_eq_true hres
          have := y6t (off := off) ht.size hr hob hL h1 hds hn hlen hone hcv hpos (by omega) (std.splice es off (x9n ds)) (fun i => by
            have := z4s es (x9n ds) off i (by rw [x5a]; exact hroom)
            simp only [std, x5a] at this ⊢
            rw [this, y8v]) new
          obtain ⟨v', w', ρ', a1, a2, a3, a4, a5⟩ := this
          exact ⟨v', w', ρ', a1, a2, a3, a4, a5⟩
        · cases hs
    · cases hs
  ·
    rename_i id i off
    split at hs
    ·
      rename_i es hob
      split at hs
      · rename_i ds hds
        split at hs
        · rename_i l hov
          cases hs
          cases ha with
          | ptr _ _ _ L hL =>
            obtain ⟨_, ho⟩ := hr.obj id L hL
            rw [hob] at ho
            obtain ⟨hz, c, t, hc, hle, hj⟩ := ho
            obtain ⟨r0, hri, hrle⟩ := hrow.1 es hob
            obtain ⟨o1, o2, o3⟩ := z8u hov
            have hrl0 := hle i r0 hri
            have hrl : r.length = L.esz := hrle.1.trans hrl0
            have hdl : ds.length = cells.length := by rw [z2m hds, z08]
            have hroom : L.base + i * L.esz + off + ti.size ≤ c.size := by
              have hlt : L.esz - 1 < r0.length := by omega
              obtain ⟨v, hv, _, _⟩ := hj i r0 (L.esz - 1) _ hri (List.getElem?_eq_getElem hlt)
              have := (Array.getElem?_eq_some_iff.1 hv).1
              omega
            have hrun := z75 (P := P) ht.size hc hn hone hroom
            have hlive : (z0j h id).live = true := by rw [hob]; rfl
            have hbs : ∀ m, z1v w L.blk = some m → z1v (World.setObj w L.blk (.cells (c.toList.take (L.base + i * L.esz + off) ++ vx.cells.toList ++ c.toList.drop (L.base + i * L.esz + off + vx.cells.toList.length)).toArray t (0, 0))) L.blk = some m := by
              intro m hm
              rw [z05 hc] at hm; cases hm
              rw [z05 (z0z _ _ _ (Array.getElem?_eq_some_iff.1 hc).1)]
              congr 1
              simp; omega
            rw [hp]
            have hk := z2a hr hL hlive (.row (std.set es i l)) rfl _ hbs
            refine ⟨undef, _, ρ, by simp only [z4t, Sem.run_bind, hrun, Result.andThen_ok, Sem.run_pure], .bot _, hr.set hL hlive _ rfl _ hbs ?_, Ext.set _ hr hL hlive _ rfl _ hbs, .inl rfl⟩
            have hvl : vx.cells.toList.length = cells.length := by simpa using hsz
            refine ⟨hz, _, t, z0z _ _ _ (Array.getElem?_eq_some_iff.1 hc).1, fun k q hq => ?_, fun k q j y hq hy => ?_⟩
            · simp only [std, List.getElem?_set] at hq
              split at hq
              · split at hq
                · cases hq; omega
                · cases hq
              · exact hle k q hq
            · have hsp := z4s c.toList vx.cells.toList (L.base + i * L.esz + off) (L.base + k * L.esz + j) (by simp; omega)
              rw [List.getElem?_toArray]
              simp only [std, List.getElem?_set] at hq
              split at hq
              · rename_i hki
                subst hki
                split at hq
                · cases hq
                  rw [o3 j] at hy
                  by_cases hin : off ≤ j ∧ j < off + ds.length
                  · rw [if_pos hin] at hy
                    have hy2 : cells[j - off]? = some (.d y) := by rw [z2m hds, z1y, hy]; rfl
                    obtain ⟨u, hu, hrel⟩ := hcv _ _ hy2
                    rw [if_pos (by omega)] at hsp
                    rw [hsp, show L.base + i * L.esz + j - (L.base + i * L.esz + off) = j - off by omega]
                    cases hrel with
                    | d hrel => exact ⟨u, by simpa using hu, hone u (by rw [Array.getElem?_eq_some_iff] at hu; obtain ⟨h1, h2⟩ := hu; rw [← h2]; simp), hrel.keep hk⟩
                  · rw [if_neg hin] at hy
                    obtain ⟨y0, hy0, hyle⟩ := hrle.2 j y hy
                    obtain ⟨u, hu, hu1, hrel⟩ := hj i r0 j y0 hri hy0
                    rw [if_neg (by omega)] at hsp
                    exact ⟨u, by rw [hsp]; simpa using hu, hu1, (hrel.le hyle).keep hk⟩
                · cases hq
              · rename_i hki
                obtain ⟨u, hu, hu1, hrel⟩ := hj k q j y hq hy
                have hqj : j < L.esz := by rw [← hle k q hq]; exact (List.getElem?_eq_some_iff.1 hy).1
                have hne : ¬ (L.base + i * L.esz + off ≤ L.base + k * L.esz + j ∧ L.base + k * L.esz + j < L.base + i * L.esz + off + vx.cells.toList.length) := by
                  rintro ⟨g1, g2⟩
                  rcases Nat.lt_or_gt_of_ne hki with hlt | hlt
                  · have : (i + 1) * L.esz ≤ k * L.esz := Nat.mul_le_mul_right _ hlt
                    rw [Nat.add_mul] at this; omega
                  · have : (k + 1) * L.esz ≤ i * L.esz := Nat.mul_le_mul_right _ hlt
                    rw [Nat.add_mul] at this; omega
                rw [if_neg hne] at hsp
                exact ⟨u, by rw [hsp]; simpa using hu, hu1, hrel.keep hk⟩
        · cases hs
      · cases hs
    ·
      rename_i es hob
      split at hs
      · rename_i l hov
        cases hs
        cases ha with
        | ptr _ _ _ L hL =>
          obtain ⟨_, ho⟩ := hr.obj id L hL
          rw [hob] at ho
          obtain ⟨hz, c, t, hc, hle, hj⟩ := ho
          have hri := hrow.2 es hob
          obtain ⟨o1, o2, o3⟩ := z8u hov
          have hrl := hle i ra hri
          have hroom : L.base + i * L.esz + off + ti.size ≤ c.size := by
            have hlt : L.esz - 1 < ra.length := by omega
            obtain ⟨v, hv, _, _⟩ := hj i ra (L.esz - 1) _ hri (List.getElem?_eq_getElem hlt)
            have := (Array.getElem?_eq_some_iff.1 hv).1
            omega
          have hrun := z75 (P := P) ht.size hc hn hone hroom
          have hlive : (z0j h id).live = true := by rw [hob]; rfl
          have hbs : ∀ m, z1v w L.blk = some m → z1v (World.setObj w L.blk (.cells (c.toList.take (L.base + i * L.esz + off) ++ vx.cells.toList ++ c.toList.drop (L.base + i * L.esz + off + vx.cells.toList.length)).toArray t (0, 0))) L.blk = some m := by
            intro m hm
            rw [z05 hc] at hm; cases hm
            rw [z05 (z0z _ _ _ (Array.getElem?_eq_some_iff.1 hc).1)]
            congr 1
            simp; omega
          have hk := z2a hr hL hlive (.arow (es.set i l)) rfl _ hbs
          refine ⟨undef, _, ρ, by simp only [z4t, Sem.run_bind, hrun, Result.andThen_ok, Sem.run_pure], .bot _, hr.set hL hlive _ rfl _ hbs ?_, Ext.set _ hr hL hlive _ rfl _ hbs, .inl rfl⟩
          have hvl : vx.cells.toList.length = cells.length := by simpa using hsz
          refine ⟨hz, _, t, z0z _ _ _ (Array.getElem?_eq_some_iff.1 hc).1, fun k q hq => ?_, fun k q j y hq hy => ?_⟩
          · simp only [List.getElem?_set] at hq
            split at hq
            · split at hq
              · cases hq; omega
              · cases hq
            · exact hle k q hq
          · have hsp := z4s c.toList vx.cells.toList (L.base + i * L.esz + off) (L.base + k * L.esz + j) (by simp; omega)
            rw [List.getElem?_toArray]
            simp only [List.getElem?_set] at hq
            split at hq
            · rename_i hki
              subst hki
              split at hq
              · cases hq
                rw [o3 j] at hy
                by_cases hin : off ≤ j ∧ j < off + cells.length
                · rw [if_pos hin] at hy
                  obtain ⟨u, hu, hrel⟩ := hcv _ _ hy
                  rw [if_pos (by omega)] at hsp
                  rw [hsp, show L.base + i * L.esz + j - (L.base + i * L.esz + off) = j - off by omega]
                  exact ⟨u, by simpa using hu, hone u (by rw [Array.getElem?_eq_some_iff] at hu; obtain ⟨h1, h2⟩ := hu; rw [← h2]; simp), hrel.keep hk (fun _ _ h => h)⟩
                · rw [if_neg hin] at hy
                  obtain ⟨u, hu, hu1, hrel⟩ := hj i ra j y hri hy
                  rw [if_neg (by omega)] at hsp
                  exact ⟨u, by rw [hsp]; simpa using hu, hu1, hrel.keep hk (fun _ _ h => h)⟩
              · cases hq
            · rename_i hki
              obtain ⟨u, hu, hu1, hrel⟩ := hj k q j y hq hy
              have hqj : j < L.esz := by rw [← hle k q hq]; exact (List.getElem?_eq_some_iff.1 hy).1
              have hne : ¬ (L.base + i * L.esz + off ≤ L.base + k * L.esz + j ∧ L.base + k * L.esz + j < L.base + i * L.esz + off + vx.cells.toList.length) := by
                rintro ⟨g1, g2⟩
                rcases Nat.lt_or_gt_of_ne hki with hlt | hlt
                · have : (i + 1) * L.esz ≤ k * L.esz := Nat.mul_le_mul_right _ hlt
                  rw [Nat.add_mul] at this; omega
                · have : (k + 1) * L.esz ≤ i * L.esz := Nat.mul_le_mul_right _ hlt
                  rw [Nat.add_mul] at this; omega
              rw [if_neg hne] at hsp
              exact ⟨u, by rw [hsp]; simpa using hu, hu1, hrel.keep hk (fun _ _ h => h)⟩
      · cases hs
    · cases hs
  · cases hs
end Go.Am
end
section
namespace Go.Am
section
variable {P:Program} {ρ:Rho} {h:List AO} {w:World}
theorem x4u {T:TypeId} {ti:TI} (ht:z8m P T ti) (w:World):∃ z:Value,(zeroValue T).run P w= .ok z w∧z.cells.size=ti.size∧(ti.agg=true→∃ cs,z= .agg cs)∧(ti.agg=false→∀ cs,z≠ .agg cs)∧
  ∀ (O:Nat→Prop) (w':World) (j:Nat) (d:D),ti.zero[j]?=some d→∃ v,z.cells[j]?=some v∧z12 O w' d v:=by
 obtain ⟨i,z,hi,hz,hd,hl,ha,hn⟩:=ht.zero
 obtain ⟨h1,h2⟩:=z7r hd
 refine ⟨z,by simp [zeroValue,typeInfo,hi,hz],by rw [←hl,h1]; simp,ha,hn,fun O w' j d hj=>?_⟩
 obtain ⟨v,hv,hr⟩:=h2 O w' j d hj
 exact ⟨v,by simpa using hv,hr⟩
theorem y2h (hr:z0c P ρ h w) {new:Nat} (hn:ρ new=none) {T:TypeId} {s:Sem Value} (c:Array Value) (x:AV) (o:AO) (cap:Nat) (esz:Nat) (v:Value)
  (hs:s.run P w= .ok v (World.push w (.cells c T)))
  (ho:z17 P (ρ.put new ⟨w.heap.size,0,esz⟩) (z0i (ρ.put new ⟨w.heap.size,0,esz⟩) (z1i h new o)) (World.push w (.cells c T)) ⟨w.heap.size,0,esz⟩ o)
  (hv:z0t (ρ.put new ⟨w.heap.size,0,esz⟩) (z0i (ρ.put new ⟨w.heap.size,0,esz⟩) (z1i h new o)) (World.push w (.cells c T)) x v):
  z0r P ρ h w new s ⟨true,x,[(new,o)]⟩:=
 ⟨v,_,_,hs,hv,hr.new hn esz o _ ho,Ext.new hr hn _ o _ rfl, .inr ⟨o,by simp⟩⟩
theorem x05 {k:IntKind} {l:List D} (h:y04 k l=true):∀ x∈l,x= .int k 0:=by
 induction l with
 |nil=>simp
 |cons d l ih=>
  unfold y04 at h
  split at h
  ·rename_i hd; cases hd
  ·rename_i k' l' hd
   cases hd
   simp only [Bool.and_eq_true,beq_iff_eq] at h
   intro x hx
   rcases List.mem_cons.1 hx with rfl|hx
   ·rw [h.1]; rfl
   ·exact ih h.2 x hx
  ·cases h
theorem x8t {ti:TI} {k:IntKind} (h:x8u ti=some k):∀ x∈ti.zero,x= .int k 0:=by
 unfold x8u at h
 cases hb:Nat.ble 20 ti.size with
 |false=>rw [hb] at h; cases h
 |true=>
  rw [hb] at h
  simp only [cond_true] at h
  split at h
  ·rename_i k' n l hz
   cases hs:y04 k' ti.zero with
   |false=>rw [hs] at h; cases h
   |true=>rw [hs] at h; cases h; exact x05 hs
  ·cases h
theorem x3w {ds:List D} (h:y5d ds=true):∀ x∈ds,w73 x=true:=by
 induction ds with
 |nil=>simp
 |cons d l ih=>
  simp only [y5d,Bool.and_eq_true] at h
  intro x hx
  rcases List.mem_cons.1 hx with rfl|hx
  ·exact h.1
  ·exact ih h.2 x hx
theorem x7d {O:Nat→Prop} {x:D} {v:Value} (h:w73 x=true) (hr:z12 O w x v):v.oneCell'=true:=by
 cases hr<;>first|rfl|cases h
theorem x0t {T : TypeId} {ti : TI} (ht : z8m P T ti) (hr : z0c P ρ h w) {new : Nat} (hn : ρ new = none) {res : Res} (hs : y01 std ti new = some res) :
    z0r P ρ h w new (Instr.alloc T true (.tuple #[])) res := by
  unfold y01 at hs
  cases hb : Nat.ble 1 ti.size with
  | false => rw [hb] at hs; cases hs
  | true =>
  rw [hb] at hs
  simp only [cond_true] at hs
  obtain ⟨z, hz, hzs, _, _, hzr⟩ := x4u ht w
  have hzl : ti.zero.length = ti.size := by obtain ⟨_, _, _, _, _, hl, _⟩ := ht.zero; exact hl
  split at hs
  · rename_i k hw
    cases hs
    have hall := x8t hw
    refine y2h hr hn (T := T) z.cells (.bptr new 0) (.row (List.replicate ti.size [.int k 0])) 0 1 (.pointer (some ⟨w.heap.size, 0, none⟩)) ?_ ?_ ?_
    · simp only [Instr.alloc, Sem.run_bind, hz, Result.andThen_ok, newVar, newRow, run_newObj, Sem.run_pure]; rfl
    · refine ⟨Nat.one_pos, z.cells, T, z3o _ _, fun i r hi => ?_, fun i r j x hi hx => ?_⟩
      · rw [List.getElem?_replicate] at hi
        split at hi
        · cases hi; rfl
        · cases hi
      · rw [List.getElem?_replicate] at hi
        split at hi
        · rename_i hlt
          cases hi
          cases j with
          | succ j => simp at hx
          | zero =>
            simp at hx; subst hx
            have hq : ti.zero[i]? = some (.int k 0) := by
              rw [List.getElem?_eq_getElem (by omega)]
              exact congrArg some (hall _ (List.getElem_mem _))
            obtain ⟨v, hv, hrel⟩ := hzr (z0i (ρ.put new ⟨w.heap.size, 0, 1⟩) (z1i h new (.row (List.replicate ti.size [.int k 0])))) (World.push w (.cells z.cells T)) i _ hq
            refine ⟨v, by simpa using hv, ?_, hrel⟩
            cases hrel; rfl
        · cases hi
    · exact .bptr new 0 ⟨w.heap.size, 0, 1⟩ (Rho.put_same _ _ _)
  cases hs
  refine y2h hr hn (T := T) z.cells (.bptr new 0) (.box (toA ti.zero)) 0 ti.size (.pointer (some ⟨w.heap.size, 0, none⟩)) ?_ ?_ ?_
  · simp only [Instr.alloc, Sem.run_bind, hz, Result.andThen_ok, newVar, newRow, run_newObj, Sem.run_pure]; rfl
  · refine ⟨z.cells, T, z3o _ _, fun j x hx => ?_⟩
    rw [z1y] at hx
    cases hq : ti.zero[j]? with
    | none => simp [hq] at hx
    | some d =>
      simp [hq] at hx; subst hx
      obtain ⟨v, hv, hrel⟩ := hzr (z0i (ρ.put new ⟨w.heap.size, 0, ti.size⟩) (z1i h new (.box (toA ti.zero)))) (World.push w (.cells z.cells T)) j d hq
      exact ⟨v, by simpa using hv, .d hrel⟩
  · exact .bptr new 0 ⟨w.heap.size, 0, ti.size⟩ (Rho.put_same _ _ _)
theorem x6q {T : TypeId} {ti : TI} (ht : z8m P T ti) (hr : z0c P ρ h w) {new : Nat} (hn : ρ new = none) {x : AV} {v : Value} (hx : z0t ρ (z0i ρ h) w x v) {res : Res}
    (hs : y8d ti new x = some res) : z0r P ρ h w new (Instr.box T v) res := by
  unfold y8d at hs
  cases hb : Nat.ble 1 ti.size with
  | false => rw [hb] at hs; cases hs
  | true =>
  rw [hb] at hs
  simp only [cond_true] at hs
  split at hs
  · rename_i l hl
    cases hc : z7n l ti.size with
    | false => rw [hc] at hs; cases hs
    | true =>
    rw [hc] at hs
    simp only [cond_true] at hs
    obtain ⟨h1, h2⟩ := y2r hl hx
    split at hs
    · split at hs
      · rename_i ds hds
        cases hld : y5d ds with
        | false => rw [hld] at hs; cases hs
        | true =>
        rw [hld] at hs; cases hs
        refine y2h hr hn (T := T) v.cells (.bptr new 0) (.row (x9n ds)) 0 1 (.pointer (some ⟨w.heap.size, 0, none⟩)) ?_ ?_ ?_
        · simp only [Instr.box, Sem.run_bind, newVar, newRow, run_newObj, Result.andThen_ok, Sem.run_pure]; rfl
        · refine ⟨Nat.one_pos, v.cells, T, z3o _ _, fun i r hi => ?_, fun i r j x hi hx => ?_⟩
          · rw [y8v] at hi
            cases hd : ds[i]? with
            | none => rw [hd] at hi; cases hi
            | some d => rw [hd] at hi; cases hi; rfl
          · rw [y8v] at hi
            cases hd : ds[i]? with
            | none => rw [hd] at hi; cases hi
            | some d =>
              rw [hd] at hi; cases hi
              cases j with
              | succ j => simp at hx
              | zero =>
                simp at hx; subst hx
                obtain ⟨u, hu, hrel⟩ := h2 i (.d d) (by rw [z2m hds, z1y, hd]; rfl)
                cases hrel with
                | d hrel => exact ⟨u, by simpa using hu, x7d (x3w hld d (List.mem_of_getElem? hd)) hrel, hrel.keep (z7p hr hn _ _ _ rfl)⟩
        · exact .bptr new 0 ⟨w.heap.size, 0, 1⟩ (Rho.put_same _ _ _)
      · cases hs
    cases hs
    refine y2h hr hn (T := T) v.cells (.bptr new 0) (.box l) 0 ti.size (.pointer (some ⟨w.heap.size, 0, none⟩)) ?_ ?_ ?_
    · simp only [Instr.box, Sem.run_bind, newVar, newRow, run_newObj, Result.andThen_ok, Sem.run_pure]; rfl
    · refine ⟨v.cells, T, z3o _ _, fun j y hy => ?_⟩
      obtain ⟨u, hu, hrel⟩ := h2 j y hy
      exact ⟨u, by simpa using hu, hrel.keep (z7p hr hn _ _ _ rfl) (Rho.put_mono _ _ _ hn)⟩
    · exact .bptr new 0 ⟨w.heap.size, 0, ti.size⟩ (Rho.put_same _ _ _)
  · cases hs
theorem w0g (cs vs:List Value) (off:Nat) (acc:Array Value) (k:Nat):
  ((vs.zipIdx k).foldl (fun (a:Array Value) (x:Value×Nat)=>a.setIfInBounds (off+x.2) x.1) acc).size=acc.size∧
  (off+k+vs.length≤acc.size→∀ j,((vs.zipIdx k).foldl (fun (a:Array Value) (x:Value×Nat)=>a.setIfInBounds (off+x.2) x.1) acc)[j]?=
   if off+k≤j∧j<off+k+vs.length then vs[j - (off+k)]? else acc[j]?):=by
 induction vs generalizing acc k with
 |nil=>simp; intro _ j h1 h2; omega
 |cons v vs ih=>
  simp only [List.zipIdx_cons,List.foldl_cons]
  obtain ⟨h1,h2⟩:=ih (acc.setIfInBounds (off+k) v) (k+1)
  refine ⟨by rw [h1]; simp,fun hle j=>?_⟩
  rw [h2 (by simp at hle⊢; omega) j,Array.getElem?_setIfInBounds]
  simp only [List.length_cons] at hle⊢
  by_cases hj:j=off+k
  ·subst hj
   rw [if_neg (by omega),if_pos rfl,if_pos (by omega),if_pos (by omega)]
   simp
  ·rw [if_neg (show ¬ off+k=j by omega)]
   by_cases hin:off+(k+1)≤j∧j<off+(k+1)+vs.length
   ·rw [if_pos hin,if_pos (by omega),show j - (off+k)=(j - (off+(k+1)))+1 by omega]; simp
   ·rw [if_neg hin,if_neg (by omega)]
theorem y3x {O:Nat→Prop} (place:Nat→Option (Nat×Nat)):∀ (parts:List (Nat×AV)) (pv:List (Nat×Value)) (cells r:List AV) (cv:Array Value),
  y6k place cells parts=some r→pv.length=parts.length→(∀ (k:Nat) (x:Nat×AV) (y:Nat×Value),parts[k]?=some x→pv[k]?=some y→x.1=y.1∧z0t ρ O w x.2 y.2)→
  cv.size=cells.length→(∀ (j:Nat) (x:AV),cells[j]?=some x→∃ v,cv[j]?=some v∧z0t ρ O w x v)→
  ∃ rv:Array Value,Instr.fill place cv pv=some rv∧rv.size=r.length∧(∀ (j:Nat) (x:AV),r[j]?=some x→∃ v,rv[j]?=some v∧z0t ρ O w x v)
 |[],pv,cells,r,cv,hf,hl,hp,hs,hc=>by
  simp [y6k] at hf; subst hf
  cases pv with
  |nil=>exact ⟨cv,rfl,hs,hc⟩
  |cons _ _=>simp at hl
 |(i,x)::rest,pv,cells,r,cv,hf,hl,hp,hs,hc=>by
  cases pv with
  |nil=>simp at hl
  |cons y pv=>
   obtain ⟨i',v⟩:=y
   obtain ⟨e,hxv⟩:=hp 0 (i,x) (i',v) (by simp) (by simp)
   simp at e; subst e
   simp only [y6k] at hf
   split at hf
   ·rename_i off size cs hpl hcx
    cases hb:z7n cs size with
    |false=>rw [hb] at hf; cases hf
    |true=>
    rw [hb] at hf
    simp only [cond_true] at hf
    split at hf
    ·rename_i l hov
     obtain ⟨c1,c2⟩:=y2r hcx hxv
     obtain ⟨o1,o2,o3⟩:=z8u hov
     have hsz:=z7m hb
     obtain ⟨f1,f2⟩:=w0g [] v.cells.toList off cv 0
     simp only [Nat.add_zero] at f2
     have hvl:v.cells.toList.length=cs.length:=by simpa using c1
     have hroom:off+v.cells.toList.length≤cv.size:=by omega
     have hfold:v.cells.zipIdx.foldl (fun cs (x:Value×Nat)=>cs.setIfInBounds (off+x.2) x.1) cv=(v.cells.toList.zipIdx 0).foldl (fun (a:Array Value) (x:Value×Nat)=>a.setIfInBounds (off+x.2) x.1) cv:=by
      rw [←Array.foldl_toList]; simp
     obtain ⟨rv,g1,g2,g3⟩:=y3x place rest pv l r _ hf (by simpa using hl) (fun k a b ha hb=>hp (k+1) a b (by simpa using ha) (by simpa using hb))
      (by rw [f1,hs, ←o1]) (fun j y hy=>by
       rw [f2 hroom j]
       rw [o3 j] at hy
       by_cases hin:off≤j∧j<off+cs.length
       ·rw [if_pos hin] at hy
        rw [if_pos (by omega)]
        obtain ⟨u,hu,hrel⟩:=c2 _ y hy
        exact ⟨u,by simpa using hu,hrel⟩
       ·rw [if_neg hin] at hy
        rw [if_neg (by omega)]
        exact hc j y hy)
     refine ⟨rv,?_,g2,g3⟩
     simp only [Instr.fill,hpl]
     rw [if_neg]
     ·rw [hfold]; exact g1
     ·simp only [Bool.or_eq_true,decide_eq_true_eq,not_or]
      rw [Array.length_toList] at hroom
      refine ⟨not_not_intro (c1.trans hsz),by omega⟩
    ·cases hf
   ·cases hf
theorem y4v (w:World) (fs:Array Field) (l:List (Nat×Nat×Bool)) (hl:l.length=fs.size) (h:∀ (i:Nat) (x:Nat×Nat×Bool),l[i]?=some x→∃ f:Field,fs[i]?=some f∧f.offset=x.1∧z8q P f.type=some x.2.1∧z3u P f.type=some x.2.2):
  ∃ ps:Array (Nat×Nat),(fs.mapM (fun f=>(do pure (f.offset, ←sizeOf f.type):Sem (Nat×Nat)))).run P w= .ok ps w∧∀ i,ps[i]?=(z2k l i).map fun f=>(f.1,f.2.1):=by
 have key:∀ (fl:List Field) (l:List (Nat×Nat×Bool)),l.length=fl.length→(∀ (i:Nat) (x:Nat×Nat×Bool),l[i]?=some x→∃ f:Field,fl[i]?=some f∧f.offset=x.1∧z8q P f.type=some x.2.1∧z3u P f.type=some x.2.2)→
   (fl.mapM (fun f=>(do pure (f.offset, ←sizeOf f.type):Sem (Nat×Nat)))).run P w= .ok (l.map fun f=>(f.1,f.2.1)) w:=by
  intro fl
  induction fl with
  |nil=>intro l hl _; cases l<;>simp at hl⊢
  |cons f fl ih=>
   intro l hl h
   cases l with
   |nil=>simp at hl
   |cons x l=>
    obtain ⟨f',hf,ho,hs,_⟩:=h 0 x (by simp)
    simp at hf; subst hf
    have:=ih l (by simpa using hl) (fun i y hy=>by simpa using h (i+1) y (by simpa using hy))
    simp only [List.mapM_cons,Sem.run_bind,z1m hs,Result.andThen_ok,Sem.run_pure,this,List.map_cons,ho]
 refine ⟨(l.map fun f=>(f.1,f.2.1)).toArray,?_,fun i=>by simp [z1z]⟩
 rw [Array.mapM_eq_mapM_toList]
 simp only [Sem.run_map,key fs.toList l (by simpa using hl) (fun i x hx=>by simpa using h i x hx),Result.andThen_ok]
def y34 (ρ:Rho) (O:Nat→Prop) (w:World) (parts:List (Nat×AV)) (pv:List (Nat×Value)):Prop:=
 pv.length=parts.length∧∀ (k:Nat) (x:Nat×AV) (y:Nat×Value),parts[k]?=some x→pv[k]?=some y→x.1=y.1∧z0t ρ O w x.2 y.2
theorem y2x {T:TypeId} {ti:TI} {z:Value} {O:Nat→Prop} (hzr:∀ (O:Nat→Prop) (w':World) (j:Nat) (d:D),ti.zero[j]?=some d→∃ v,z.cells[j]?=some v∧z12 O w' d v):
  ∀ (j:Nat) (x:AV),(toA ti.zero)[j]?=some x→∃ v,z.cells[j]?=some v∧z0t ρ O w x v:=by
 intro j x hx
 rw [z1y] at hx
 cases hq:ti.zero[j]? with
 |none=>simp [hq] at hx
 |some d=>
  simp [hq] at hx; subst hx
  obtain ⟨v,hv,hrel⟩:=hzr O w j d hq
  exact ⟨v,hv, .d hrel⟩
theorem y3b {O:Nat→Prop} {l:List AV} {x:AV} (hx:z6e true l=some x) {rv:Array Value} (hl:rv.size=l.length) (h:∀ (j:Nat) (x:AV),l[j]?=some x→∃ v,rv[j]?=some v∧z0t ρ O w x v):
  z0t ρ O w x (.agg rv):=by
 obtain ⟨v,hv,hrel⟩:=z4x hx rv.toList (by simpa using hl) (fun j y v hy hv=>by
  obtain ⟨u,hu,hrel⟩:=h j y hy
  have:rv[j]?=some v:=by simpa using hv
  rw [this] at hu; cases hu; exact hrel)
 simp at hv; subst hv; exact hrel
theorem x0r {T:TypeId} {ti:TI} (ht:z8m P T ti) (hr:z0c P ρ h w) {new:Nat} {parts:List (Nat×AV)} {pv:Array (Nat×Value)}
  (hp:y34 ρ (z0i ρ h) w parts pv.toList) {res:Res} (hs:y0z ti parts=some res):z0r P ρ h w new (Instr.build T pv) res:=by
 obtain ⟨d,hd,hda,hk⟩:=ht.desc
 obtain ⟨z,hz,hzs,hza,hzn,hzr⟩:=x4u ht w
 have hzl:ti.zero.length=ti.size:=by obtain ⟨_,_,_,_,_,hl,_⟩:=ht.zero; exact hl
 unfold y0z at hs
 split at hs
 ·rename_i fs hfs
  rw [hfs] at hk
  obtain ⟨fields,rfl,hk1,hk2⟩:=hk
  split at hs
  ·rename_i l hl
   obtain ⟨x,hx,rfl⟩:=z23 hs
   obtain ⟨ps,hps,hpi⟩:=y4v (P:=P) w fields fs hk1 hk2
   obtain ⟨rv,g1,g2,g3⟩:=y3x (ρ:=ρ) (w:=w) (O:=z0i ρ h) _ parts pv.toList (toA ti.zero) l z.cells hl hp.1 hp.2 (by rw [z08,hzl,hzs]) (y2x (T:=T) hzr)
   have hfun:(fun i=>(z2k fs i).map fun f=>(f.1,f.2.1))=(fun i=>ps[i]?):=by funext i; rw [hpi i]
   rw [hfun] at g1
   refine z0r.pure (v:= .agg rv) hr ?_ (y3b hx g2 g3)
   simp only [Instr.build,Sem.run_bind,hz,Result.andThen_ok,z0h hd,hps,g1,Sem.run_pure]
  ·cases hs
 ·rename_i n esz ea hfs
  rw [hfs] at hk
  obtain ⟨e,rfl,hk2,hk3⟩:=hk
  split at hs
  ·rename_i l hl
   obtain ⟨x,hx,rfl⟩:=z23 hs
   obtain ⟨rv,g1,g2,g3⟩:=y3x (ρ:=ρ) (w:=w) (O:=z0i ρ h) _ parts pv.toList (toA ti.zero) l z.cells hl hp.1 hp.2 (by rw [z08,hzl,hzs]) (y2x (T:=T) hzr)
   refine z0r.pure (v:= .agg rv) hr ?_ (y3b hx g2 g3)
   simp only [Instr.build,Sem.run_bind,hz,Result.andThen_ok,z0h hd,z1m hk2,g1,Sem.run_pure]
  ·cases hs
 ·cases hs
theorem z78 {T:TypeId} {ti:TI} (ht:z8m P T ti) {fs:List (Nat×Nat×Bool)} (hfs:ti.desc= .struct fs) {f:Nat} {x:Nat×Nat×Bool} (hx:fs[f]?=some x) (hpos:1≤x.2.1) (b o:Nat):
  (Instr.fieldAt T (.pointer (some ⟨b,o,none⟩)) f).run P w= .ok (.pointer (some ⟨b,o+x.1,none⟩)) w:=by
 obtain ⟨d,hd,hda,hk⟩:=ht.desc
 rw [hfs] at hk
 obtain ⟨fields,rfl,hk1,hk2⟩:=hk
 obtain ⟨g,hg,ho,hsz,_⟩:=hk2 f x hx
 have hne:x.2.1≠0:=by omega
 simp only [Instr.fieldAt,Sem.run_bind,z0h hd,Result.andThen_ok,hg,Instr.sureAddr,Sem.run_pure,fieldPlace,z1m hsz,hne,if_false,Sem.run_ite,z49,ho]
theorem x0o {T:TypeId} {ti:TI} (ht:z8m P T ti) (hr:z0c P ρ h w) {new f:Nat} {a:AV} {v:Value} (ha:z0t ρ (z0i ρ h) w a v) {res:Res} (hs:y0y ti f a=some res):
  z0r P ρ h w new (Instr.fieldAt T v f) res:=by
 unfold y0y at hs
 split at hs
 ·split at hs
  ·rename_i fs hfs
   split at hs
   ·rename_i o s g hx
    rw [z1z] at hx
    cases hb:Nat.ble 1 s with
    |false=>rw [hb] at hs; cases hs
    |true=>
    rw [hb] at hs; cases hs
    cases ha with
    |bptr id off L hL=>
     refine z0r.pure hr (z78 ht hfs hx (Nat.le_of_ble_eq_true hb) _ _) ?_
     rw [Nat.add_assoc]; exact .bptr _ _ L hL
   ·cases hs
  ·cases hs
 ·split at hs
  ·rename_i fs hfs
   split at hs
   ·rename_i o s g hx
    rw [z1z] at hx
    cases hb:Nat.ble 1 s with
    |false=>rw [hb] at hs; cases hs
    |true=>
    rw [hb] at hs; cases hs
    cases ha with
    |ptr id i off L hL=>
     refine z0r.pure hr (z78 ht hfs hx (Nat.le_of_ble_eq_true hb) _ _) ?_
     rw [Nat.add_assoc]; exact .ptr _ _ _ L hL
   ·cases hs
  ·cases hs
 ·split at hs
  ·rename_i fs hfs
   split at hs
   ·rename_i o s g hx
    rw [z1z] at hx
    cases hb:Nat.ble 1 s with
    |false=>rw [hb] at hs; cases hs
    |true=>
    rw [hb] at hs; cases hs
    cases ha with
    |wptr r off b o' z hlt hO hz' hc'=>
     refine z0r.pure hr (z78 ht hfs hx (Nat.le_of_ble_eq_true hb) _ _) ?_
     rw [Nat.add_assoc]; exact .wptr _ _ b o' z hlt hO hz' hc'
   ·cases hs
  ·cases hs
 ·split at hs
  ·rename_i fs hfs
   split at hs
   ·rename_i o s g hx
    rw [z1z] at hx
    cases hb:Nat.ble 1 s with
    |false=>rw [hb] at hs; cases hs
    |true=>
    rw [hb] at hs; cases hs
    cases ha with
    |lptr r off b o' hlt hO cell hc hrr=>
     refine z0r.pure hr (z78 ht hfs hx (Nat.le_of_ble_eq_true hb) _ _) ?_
     rw [Nat.add_assoc]; exact .lptr _ _ b o' hlt hO cell hc hrr
   ·cases hs
  ·cases hs
 ·cases hs
theorem x1w (vs:Array Value) (o s:Nat):(vs.extract o (o+s)).toList=(vs.toList.drop o).take s:=by
 simp [Array.toList_extract,List.extract_eq_take_drop]
theorem z1h {α:Type} (l:List α) (o s j:Nat):((l.drop o).take s)[j]?=if j<s then l[o+j]? else none:=by
 rw [List.getElem?_take]; split<;>simp [List.getElem?_drop]
theorem z9l {t:TypeId} {s:Nat} {a:Bool} (hs:z8q P t=some s) (ha:z3u P t=some a) (vs:Array Value) (o:Nat) (cs:List Value) (hcs:cs.length=s)
  (hg:∀ j,j<s→cs[j]?=vs[o+j]?) (v:Value) (hv:if a then v= .agg cs.toArray else cs=[v]):(Go.part t vs o).run P w= .ok v w:=by
 cases a with
 |true=>
  simp at hv; subst hv
  have e:vs.extract o (o+s)=cs.toArray:=by
   apply Array.ext'
   rw [x1w]
   apply List.ext_getElem?
   intro j
   rw [z1h]
   split
   ·rename_i hj; rw [hg j hj]; simp
   ·rename_i hj; symm; simp; omega
  simp only [Go.part,Sem.run_bind,y8m ha,Result.andThen_ok,if_true,z1m hs,Sem.run_pure,e,Sem.run_ite]
 |false=>
  simp at hv; subst hv
  simp at hcs; subst hcs
  have:=hg 0 (by omega)
  simp at this
  simp [Go.part,y8m ha, ←this]
theorem y63 {O:Nat→Prop} {l c:List AV} {o s:Nat} (hp:part l o s=some c) {vs:Array Value} (hl:vs.size=l.length) (hv:∀ (i:Nat) (x:AV),l[i]?=some x→z0t ρ O w x (vs.getD i undef)):
  ∃ cs:List Value,cs.length=c.length∧(∀ j,j<s→cs[j]?=vs[o+j]?)∧∀ (j:Nat) (y:AV) (v:Value),c[j]?=some y→cs[j]?=some v→z0t ρ O w y v:=by
 obtain ⟨p1,p2⟩:=z26 hp
 have hle:∀ j,j<s→o+j<l.length:=by
  intro j hj
  have:=p2 j hj
  rw [List.getElem?_eq_getElem (show j<c.length by omega)] at this
  exact (List.getElem?_eq_some_iff.1 this).1
 refine ⟨(vs.toList.drop o).take s,?_,fun j hj=>by rw [z1h,if_pos hj]; simp,fun j y v hy hv'=>?_⟩
 ·rw [List.length_take,List.length_drop,Array.length_toList,p1]
  rcases Nat.eq_zero_or_pos s with h0|h0
  ·omega
  ·have:=hle (s - 1) (by omega); omega
 ·have hj:j<s:=by rw [←p1]; exact (List.getElem?_eq_some_iff.1 hy).1
  rw [z1h,if_pos hj] at hv'
  have h1:=hv (o+j) y (by rw [p2 j hj]; exact hy)
  rw [z8a (show vs[o+j]?=some v by simpa using hv')] at h1
  exact h1
theorem y62 {O:Nat→Prop} {l c:List D} {o s:Nat} (hp:part l o s=some c) {vs:Array Value} (hl:vs.size=l.length) (hv:∀ (i:Nat) (x:D),l[i]?=some x→z12 O w x (vs.getD i undef)):
  ∃ cs:List Value,cs.length=c.length∧(∀ j,j<s→cs[j]?=vs[o+j]?)∧∀ (j:Nat) (y:D) (v:Value),c[j]?=some y→cs[j]?=some v→z12 O w y v:=by
 obtain ⟨p1,p2⟩:=z26 hp
 have hle:∀ j,j<s→o+j<l.length:=by
  intro j hj
  have:=p2 j hj
  rw [List.getElem?_eq_getElem (show j<c.length by omega)] at this
  exact (List.getElem?_eq_some_iff.1 this).1
 refine ⟨(vs.toList.drop o).take s,?_,fun j hj=>by rw [z1h,if_pos hj]; simp,fun j y v hy hv'=>?_⟩
 ·rw [List.length_take,List.length_drop,Array.length_toList,p1]
  rcases Nat.eq_zero_or_pos s with h0|h0
  ·omega
  ·have:=hle (s - 1) (by omega); omega
 ·have hj:j<s:=by rw [←p1]; exact (List.getElem?_eq_some_iff.1 hy).1
  rw [z1h,if_pos hj] at hv'
  have h1:=hv (o+j) y (by rw [p2 j hj]; exact hy)
  rw [z8a (show vs[o+j]?=some v by simpa using hv')] at h1
  exact h1
theorem y4n {T:TypeId} {ti:TI} (ht:z8m P T ti) (hr:z0c P ρ h w) {new f:Nat} {a:AV} {v:Value} (ha:z0t ρ (z0i ρ h) w a v) {res:Res} (hs:z6o ti f a=some res):
  z0r P ρ h w new (Instr.field T v f) res:=by
 obtain ⟨d,hd,hda,hk⟩:=ht.desc
 unfold z6o at hs
 split at hs
 ·split at hs
  ·rename_i fs hfs
   rw [hfs] at hk
   obtain ⟨fields,rfl,hk1,hk2⟩:=hk
   split at hs
   ·rename_i o s g hx
    rw [z1z] at hx
    obtain ⟨fl,hfl,ho,hsz,hag⟩:=hk2 f _ hx
    split at hs
    ·rename_i c hp
     obtain ⟨x,hx',rfl⟩:=z23 hs
     cases ha with
     |d hd'=>cases hd' with
      |agg ds vs hl hv=>
       obtain ⟨cs,c1,c2,c3⟩:=y62 hp hl hv
       obtain ⟨v,hv1,hv2⟩:=z3j (ρ:=ρ) hx' cs c1 c3
       refine z0r.pure hr ?_ hv2
       have:=z9l (P:=P) (w:=w) hsz hag vs o cs (c1.trans (z26 hp).1) c2 v hv1
       simp only at ho
       simp only [Instr.field,Sem.run_bind,z0h hd,Result.andThen_ok,hfl,asAgg,Sem.run_pure,ho,this]
    ·cases hs
   ·cases hs
  ·cases hs
 ·split at hs
  ·rename_i fs hfs
   rw [hfs] at hk
   obtain ⟨fields,rfl,hk1,hk2⟩:=hk
   split at hs
   ·rename_i o s g hx
    rw [z1z] at hx
    obtain ⟨fl,hfl,ho,hsz,hag⟩:=hk2 f _ hx
    split at hs
    ·rename_i c hp
     obtain ⟨x,hx',rfl⟩:=z23 hs
     cases ha with
     |agg ds vs hl hv=>
      obtain ⟨cs,c1,c2,c3⟩:=y63 hp hl hv
      obtain ⟨v,hv1,hv2⟩:=z4x hx' cs c1 c3
      refine z0r.pure hr ?_ hv2
      have:=z9l (P:=P) (w:=w) hsz hag vs o cs (c1.trans (z26 hp).1) c2 v hv1
      simp only at ho
      simp only [Instr.field,Sem.run_bind,z0h hd,Result.andThen_ok,hfl,asAgg,Sem.run_pure,ho,this]
    ·cases hs
   ·cases hs
  ·cases hs
 ·cases hs
end
end Go.Am
end
section
namespace Go.Am
section
variable {P:Program} {ρ:Rho} {h:List AO} {w:World}
theorem z7d {T:TypeId} {e:TypeId} (hd:P.underlying T=some (.slice e)) {esz:Nat} (hs:z8q P e=some esz) (b o len cap:Nat) (k:IntKind) (i:Int) (h0:0≤i) (h1:i<len):
  (Instr.indexAt T (.slice (some ⟨b,o,none⟩) len cap) (.int k i)).run P w= .ok (.pointer (some ⟨b,o+i.toNat*esz,none⟩)) w:=by
 simp only [Instr.indexAt,asIntOf,Sem.run_bind,Sem.run_pure,Result.andThen_ok,z0h hd,Sem.run_ite,h0,h1,and_self,if_true,z1m hs,z49]
theorem z4e {T:TypeId} {e:TypeId} {n:Nat} (hd:P.underlying T=some (.array n e)) {esz:Nat} (hs:z8q P e=some esz) (b o:Nat) (k:IntKind) (i:Int) (h0:0≤i) (h1:i<n):
  (Instr.indexAt T (.pointer (some ⟨b,o,none⟩)) (.int k i)).run P w= .ok (.pointer (some ⟨b,o+i.toNat*esz,none⟩)) w:=by
 simp only [Instr.indexAt,asIntOf,Sem.run_bind,Sem.run_pure,Result.andThen_ok,z0h hd,Instr.sureAddr,Sem.run_ite,h0,h1,and_self,if_true,z1m hs,z49]
theorem z3a {i:Int} (h:std.cmp .geq i 0=true):0≤i:=by simpa [std,z6a] using h
theorem z89 {i j:Int} (h:std.cmp .lss i j=true):i<j:=by simpa [std,z6a] using h
theorem y3g {T : TypeId} {ti : TI} (ht : z8m P T ti) (hr : z0c P ρ h w) {new : Nat} {r : List D} {a ix : AV} {v vi : Value} (ha : z0t ρ (z0i ρ h) w a v) (hi : z0t ρ (z0i ρ h) w ix vi)
    (hrow : ∀ full z es k i, a = .d (.list full z es) → ix = .d (.int k i) → w15 es i.toNat r) {res : Res} (hs : z2y std std ti h r a ix = some res) (hc : res.c = true) :
    z0r P ρ h w new (Instr.indexAt T v vi) res := by
  obtain ⟨d, hd, hda, hk⟩ := ht.desc
  unfold z2y at hs
  split at hs
  ·
    rename_i full z0 es k i
    split at hs
    · rename_i e esz eb ea ez hdesc
      rw [hdesc] at hk
      obtain ⟨rfl, hsz, _, _, _⟩ := hk
      cases hb : Nat.beq z0 esz with
      | false => rw [hb] at hs; cases hs
      | true =>
      rw [hb] at hs; cases hs
      have hzz := Nat.eq_of_beq_eq_true hb
      subst hzz
      have h0 := z3a hc
      obtain ⟨r0, hri, hrle⟩ := hrow full z0 es k i rfl rfl
      have hlt := (List.getElem?_eq_some_iff.1 hri).1
      cases hi with
      | d hi => cases hi with
        | int =>
      cases ha with
      | d ha => cases ha with
        | lnil => simp at hlt
        | list _ _ b o z c hz hne hO hlc hf hsz' cell h1c hcell hh =>
          refine z0r.pure hr (z7d hd hsz b o _ _ k i h0 (by omega)) ?_
          have hlen : r.length = z0 := hrle.1.trans (hsz' _ _ hri)
          have := z0t.lptr (ρ := ρ) (O := z0i ρ h) (w := w) r 0 b (o + i.toNat * z0) (by
              have : 0 < es.length * z0 := Nat.mul_pos (by omega) hz
              exact y9l (hcell 0 this)) hO (fun j => cell (i.toNat * z0 + j)) (fun j hj => by
              rw [Nat.add_assoc]
              refine hcell _ ?_
              have : (i.toNat + 1) * z0 ≤ es.length * z0 := Nat.mul_le_mul_right _ hlt
              rw [Nat.add_mul] at this; omega) (fun j x hx => let ⟨x0, hx0, hxle⟩ := hrle.2 j x hx; (hh _ _ _ _ hri hx0).le hxle)
          simpa using this
    · cases hs
  ·
    rename_i id z off len cap k i
    split at hs
    · rename_i e esz eb ea ez hdesc
      rw [hdesc] at hk
      obtain ⟨rfl, hsz, _, _, _⟩ := hk
      cases hb : Nat.beq z esz with
      | false => rw [hb] at hs; cases hs
      | true =>
      rw [hb] at hs; cases hs
      have hzz := Nat.eq_of_beq_eq_true hb
      subst hzz
      simp only [Bool.and_eq_true] at hc
      have h0 := z3a hc.1
      have h1 : i < len := z89 hc.2
      cases hi with
      | d hi => cases hi with
        | int =>
      cases ha with
      | nils => omega
      | slice _ _ _ _ _ L a c hL hz haa hcc hle =>
        have hc0 : 0 < c := by omega
        rw [haa hc0]
        refine z0r.pure hr (z7d hd hsz _ _ _ _ k i h0 h1) ?_
        have := z0t.ptr (ρ := ρ) (O := z0i ρ h) (w := w) id (off + i.toNat) 0 L hL
        rw [hz, Nat.add_mul, Nat.add_zero, ← Nat.add_assoc] at this
        rw [hz]; exact this
    · cases hs
  ·
    rename_i id off k i
    split at hs
    · rename_i n esz ea hdesc
      rw [hdesc] at hk
      obtain ⟨e, rfl, hsz, _⟩ := hk
      obtain ⟨u, hu, hres⟩ : ∃ u : Nat, u = off + i.toNat * esz ∧ res = ⟨std.cmp .geq i 0 && std.cmp .lss i (std.ofNat n), .bptr id u, []⟩ := by
        split at hs
        · cases hs
          refine ⟨_, ?_, rfl⟩
          show off + _ = _
          congr 1
          cases hb : Nat.beq esz 1 with
          | true => have := Nat.eq_of_beq_eq_true hb; subst this; simp [std]
          | false => rfl
        · cases hs; exact ⟨_, rfl, rfl⟩
      subst hres
      simp only [Bool.and_eq_true] at hc
      have h0 := z3a hc.1
      have h1 : i < n := z89 hc.2
      cases hi with
      | d hi => cases hi with
        | int =>
      cases ha with
      | bptr _ _ L hL =>
        refine z0r.pure hr (z4e hd hsz _ _ k i h0 h1) ?_
        have := z0t.bptr (ρ := ρ) (O := z0i ρ h) (w := w) id (off + i.toNat * esz) L hL
        rw [← Nat.add_assoc] at this; rw [hu]; exact this
    · cases hs
  ·
    rename_i id j off k i
    split at hs
    · rename_i n esz ea hdesc
      rw [hdesc] at hk
      obtain ⟨e, rfl, hsz, _⟩ := hk
      cases hs
      simp only [Bool.and_eq_true] at hc
      have h0 := z3a hc.1
      have h1 : i < n := z89 hc.2
      cases hi with
      | d hi => cases hi with
        | int =>
      cases ha with
      | ptr _ _ _ L hL =>
        refine z0r.pure hr (z4e hd hsz _ _ k i h0 h1) ?_
        have := z0t.ptr (ρ := ρ) (O := z0i ρ h) (w := w) id j (off + i.toNat * esz) L hL
        rw [← Nat.add_assoc] at this; exact this
    · cases hs
  ·
    rename_i c off k i
    split at hs
    · rename_i n esz ea hdesc
      rw [hdesc] at hk
      obtain ⟨e, rfl, hsz, _⟩ := hk
      cases hs
      simp only [Bool.and_eq_true] at hc
      have h0 := z3a hc.1
      have h1 : i < n := z89 hc.2
      cases hi with
      | d hi => cases hi with
        | int =>
      cases ha with
      | wptr _ _ b o z hlt hO hz hcc =>
        refine z0r.pure hr (z4e hd hsz _ _ k i h0 h1) ?_
        have hu : std.add off (bif Nat.beq esz 1 then std.nat i else std.mul (std.nat i) esz) = off + i.toNat * esz := by
          show off + _ = _
          congr 1
          cases hb : Nat.beq esz 1 with
          | true => have := Nat.eq_of_beq_eq_true hb; subst this; simp [std]
          | false => rfl
        have := z0t.wptr (ρ := ρ) (O := z0i ρ h) (w := w) c (off + i.toNat * esz) b o z hlt hO hz hcc
        rw [← Nat.add_assoc] at this
        show z0t _ _ _ (.wptr c (std.add off _)) _
        rw [hu]; exact this
    · cases hs
  ·
    rename_i c off k i
    split at hs
    · rename_i n esz ea hdesc
      rw [hdesc] at hk
      obtain ⟨e, rfl, hsz, _⟩ := hk
      cases hs
      simp only [Bool.and_eq_true] at hc
      have h0 := z3a hc.1
      have h1 : i < n := z89 hc.2
      cases hi with
      | d hi => cases hi with
        | int =>
      cases ha with
      | lptr _ _ b o hlt hO cell hcc hrr =>
        refine z0r.pure hr (z4e hd hsz _ _ k i h0 h1) ?_
        have := z0t.lptr (ρ := ρ) (O := z0i ρ h) (w := w) c (off + i.toNat * esz) b o hlt hO cell hcc hrr
        rw [← Nat.add_assoc] at this; exact this
    · cases hs
  · cases hs
theorem y4m {T:TypeId} {ti:TI} (ht:z8m P T ti) (hr:z0c P ρ h w) {new:Nat} {a ix:AV} {v vi:Value} (ha:z0t ρ (z0i ρ h) w a v) (hi:z0t ρ (z0i ρ h) w ix vi)
  {res:Res} (hs:z6n std std ti a ix=some res) (hc:res.c=true):z0r P ρ h w new (Instr.index T v vi) res:=by
 obtain ⟨d,hd,hda,hk⟩:=ht.desc
 unfold z6n at hs
 split at hs
 ·rename_i l k i
  split at hs
  ·rename_i n esz ea hdesc
   rw [hdesc] at hk
   obtain ⟨e,rfl,hsz,hag⟩:=hk
   split at hs
   ·rename_i c hp
    cases hx:z43 ea c with
    |none=>rw [hx] at hs; cases hs
    |some x=>
    rw [hx] at hs; cases hs
    simp only [Bool.and_eq_true] at hc
    have h0:=z3a hc.1
    have h1:i<n:=z89 hc.2
    cases hi with
    |d hi=>cases hi with
     |int=>
    cases ha with
    |d ha=>cases ha with
     |agg ds vs hl hv=>
      obtain ⟨cs,c1,c2,c3⟩:=y62 hp hl hv
      obtain ⟨u,hv1,hv2⟩:=z3j (ρ:=ρ) hx cs c1 c3
      have:=z9l (P:=P) (w:=w) hsz hag vs _ cs (c1.trans (z26 hp).1) c2 u hv1
      refine ⟨u,w,ρ,?_,hv2,hr,Ext.refl _ _ _ _, .inl rfl⟩
      simp only [Instr.index,asIntOf,Sem.run_bind,Sem.run_pure,Result.andThen_ok,z0h hd,Sem.run_ite,h0,h1,and_self,if_true,z1m hsz]
      exact this
   ·cases hs
  ·cases hs
 ·rename_i l k i
  split at hs
  ·rename_i n esz ea hdesc
   rw [hdesc] at hk
   obtain ⟨e,rfl,hsz,hag⟩:=hk
   split at hs
   ·rename_i c hp
    cases hx:z6e ea c with
    |none=>rw [hx] at hs; cases hs
    |some x=>
    rw [hx] at hs; cases hs
    simp only [Bool.and_eq_true] at hc
    have h0:=z3a hc.1
    have h1:i<n:=z89 hc.2
    cases hi with
    |d hi=>cases hi with
     |int=>
    cases ha with
    |agg ds vs hl hv=>
      obtain ⟨cs,c1,c2,c3⟩:=y63 hp hl hv
      obtain ⟨u,hv1,hv2⟩:=z4x hx cs c1 c3
      have:=z9l (P:=P) (w:=w) hsz hag vs _ cs (c1.trans (z26 hp).1) c2 u hv1
      refine ⟨u,w,ρ,?_,hv2,hr,Ext.refl _ _ _ _, .inl rfl⟩
      simp only [Instr.index,asIntOf,Sem.run_bind,Sem.run_pure,Result.andThen_ok,z0h hd,Sem.run_ite,h0,h1,and_self,if_true,z1m hsz]
      exact this
   ·cases hs
  ·cases hs
 ·rename_i s k i
  split at hs
  ·rename_i hdesc
   rw [hdesc] at hk
   cases hk
   cases hs
   simp only [Bool.and_eq_true] at hc
   have h0:=z3a hc.1
   have h1:i<s.size:=z89 hc.2
   cases hi with
   |d hi=>cases hi with
    |int=>
   cases ha with
   |d ha=>cases ha with
    |str=>
     have hlt:i.toNat<s.size:=by omega
     have hget:s[i.toNat]?=some s[i.toNat]:=by simp [hlt]
     refine z0r.pure hr ?_ (.d (.int _ _))
     simp only [Instr.index,asIntOf,Sem.run_bind,Sem.run_pure,Result.andThen_ok,z0h hd,h0,if_true,hget,std,Option.map_some,Option.getD_some]
  ·cases hs
 ·cases hs
theorem z4f (op:BinOp) (T:TypeId) (k:IntKind) (a b:Int) (hne:z96 op= .divs→b≠0) (hsh:z96 op= .shift→0≤b):
  (binOp op T (.int k a) (.int k b)).run P w= .ok (match z96 op with| .comp=> .bool (z6a op a b)|_=> .int k (x28 op k a b)) w:=by
 cases op<;>simp [binOp,z96,x28,z6a,Op.intArith,Op.intDiv,Op.intBits,Op.intCmp,Op.shift] at* <;>first
  |simp [hne]
  |(intro hb; omega)
  |skip
theorem y4x (op:BinOp) (T:TypeId) (k k':IntKind) (a b:Int) (hop:z96 op= .shift) (hsh:0≤b):
  (binOp op T (.int k a) (.int k' b)).run P w= .ok (.int k (x28 op k a b)) w:=by
 cases op<;>simp [z96] at hop<;>simp [binOp,x28,Op.shift]<;>(intro hb; omega)
end
end Go.Am
end
section
namespace Go.Am
def eq1:SK→Value→Value→Option Bool
 | .i, .int k a, .int k' b=>if k=k' then some (a==b) else none
 | .b, .bool a, .bool b=>some (a==b)
 | .s, .string a, .string b=>some (a.toList==b.toList)
 |_,_,_=>none
def z7v:List SK→List Value→List Value→Option Bool
 |[],[],[]=>some true
 |k::ks,x::xs,y::ys=>match eq1 k x y,z7v ks xs ys with
  |some a,some b=>some (a&&b)
  |_,_=>none
 |_,_,_=>none
theorem v34 {x y:Value} {b:Bool} (h:eq1 .i x y=some b):∃ k a c,x= .int k a∧y= .int k c∧b=(a==c):=by
 unfold eq1 at h
 split at h
 ·rename_i k a k' c _
  by_cases hk:k=k'
  ·rw [if_pos hk] at h; subst hk; cases h; exact ⟨_,_,_,rfl,rfl,rfl⟩
  ·rw [if_neg hk] at h; cases h
 ·rename_i e; cases e
 ·rename_i e; cases e
 ·cases h
theorem v35 {x y:Value} {b:Bool} (h:eq1 .b x y=some b):∃ a c,x= .bool a∧y= .bool c∧b=(a==c):=by
 unfold eq1 at h
 split at h
 ·rename_i e; cases e
 ·cases h; exact ⟨_,_,rfl,rfl,rfl⟩
 ·rename_i e; cases e
 ·cases h
theorem v33 {x y:Value} {b:Bool} (h:eq1 .s x y=some b):∃ a c,x= .string a∧y= .string c∧b=(a.toList==c.toList):=by
 unfold eq1 at h
 split at h
 ·rename_i e; cases e
 ·rename_i e; cases e
 ·cases h; exact ⟨_,_,rfl,rfl,rfl⟩
 ·cases h
theorem x5z {ks:List SK} {xs ys:List Value} {b:Bool} (h:z7v ks xs ys=some b):xs.length=ks.length∧ys.length=ks.length:=by
 induction ks generalizing xs ys b with
 |nil=>cases xs<;>cases ys<;>simp [z7v] at h⊢
 |cons k ks ih=>
  cases xs with
  |nil=>simp [z7v] at h
  |cons x xs=>
   cases ys with
   |nil=>simp [z7v] at h
   |cons y ys=>
    simp only [z7v] at h
    split at h
    ·rename_i h2; have:=ih h2; simp; omega
    ·cases h
theorem y7o {k1 k2:List SK} {xs ys:List Value} {b:Bool} (h:z7v (k1++k2) xs ys=some b):
  ∃ b1 b2,z7v k1 (xs.take k1.length) (ys.take k1.length)=some b1∧z7v k2 (xs.drop k1.length) (ys.drop k1.length)=some b2∧b=(b1&&b2):=by
 induction k1 generalizing xs ys b with
 |nil=>exact ⟨true,b,by simp [z7v],by simpa using h,by simp⟩
 |cons k k1 ih=>
  cases xs with
  |nil=>simp [z7v] at h
  |cons x xs=>
   cases ys with
   |nil=>simp [z7v] at h
   |cons y ys=>
    simp only [List.cons_append,z7v] at h
    split at h
    ·rename_i a c h1 h2
     cases h
     obtain ⟨b1,b2,e1,e2,rfl⟩:=ih h2
     exact ⟨a&&b1,b2,by simp [z7v,h1,e1],by simpa using e2,by cases a<;>simp⟩
    ·cases h
section
variable {P:Program} {w:World}
def z91 (P:Program) (t:TypeId) (v:Value) (cs:List Value):Prop:=
 ∃ a,z3u P t=some a∧z8q P t=some cs.length∧if a then v= .agg cs.toArray else cs=[v]
theorem z7c {t:TypeId} {s:Nat} {a:Bool} (hs:z8q P t=some s) (ha:z3u P t=some a) (xs:List Value) (o:Nat) (hl:o+s≤xs.length) (h1:a=false→s=1):
  ∃ v,(∀ w,(Go.part t xs.toArray o).run P w= .ok v w)∧z91 P t v ((xs.drop o).take s):=by
 have hlen:((xs.drop o).take s).length=s:=by simp; omega
 cases a with
 |true=>
  refine ⟨.agg ((xs.drop o).take s).toArray,fun w=>z9l hs ha xs.toArray o _ hlen (fun j hj=>by rw [z1h,if_pos hj]; simp) _ rfl,true,ha,by rw [hlen]; exact hs,rfl⟩
 |false=>
  have:=h1 rfl; subst this
  have hx:xs[o]?=some xs[o]:=List.getElem?_eq_getElem (by omega)
  have e:(xs.drop o).take 1=[xs[o]]:=by
   apply List.ext_getElem?; intro j; rw [z1h]
   cases j<;>simp [hx]
  refine ⟨xs[o],fun w=>z9l hs ha xs.toArray o [xs[o]] rfl ?_ _ rfl,false,ha,by rw [hlen]; exact hs,e⟩
  intro j hj
  have:j=0:=by omega
  subst this; simp
theorem y1h {n:Nat} {t:TypeId} {a:Bool} {ks:List SK} (hf:flatK P n t=some ks) (ha:z3u P t=some a):a=false→ks.length=1:=by
 intro h0; subst h0
 cases n with
 |zero=>simp [flatK] at hf
 |succ n=>
  unfold z3u at ha
  simp only [flatK] at hf
  split at hf
  ·rename_i k0 hk0
   split at hf
   ·cases hf
    unfold w0k at hk0
    cases hu:P.underlying t with
    |none=>simp [hu] at ha
    |some d=>
     rw [hu] at hk0 ha
     cases d<;>simp only [Option.map_some,z64,Option.some.injEq,Bool.true_eq_false] at hk0 ha<;>first
      |(cases hk0; rfl)
      |cases hk0
      |cases ha
   ·cases hf
  ·cases hf
theorem y1i {n:Nat} {t:TypeId} {ks:List SK} (hf:flatK P n t=some ks):∃ a,z3u P t=some a:=by
 cases n with
 |zero=>simp [flatK] at hf
 |succ n=>
  unfold z3u
  cases hu:P.underlying t with
  |none=>simp [flatK,w0k,hu] at hf
  |some d=>exact ⟨_,rfl⟩
theorem x38 (n d:Nat) (ih:∀ (t:TypeId) (ks:List SK) (x y:Value) (xs ys:List Value) (b:Bool) (w:World),flatK P n t=some ks→z91 P t x xs→z91 P t y ys→z7v ks xs ys=some b→(Op.equalIn d t x y).run P w= .ok b w):
  ∀ (fs:List Field) (off:Nat) (ks:List SK) (xs ys:List Value) (b:Bool),w2z P (flatK P n) off fs=some ks→xs.length=off+ks.length→ys.length=off+ks.length→z7v ks (xs.drop off) (ys.drop off)=some b→
   (Op.eqFields d xs.toArray ys.toArray fs).run P w= .ok b w:=by
 intro fs
 induction fs with
 |nil=>
  intro off ks xs ys b hr hx hy hb
  simp [w2z] at hr; subst hr
  have h1:xs.drop off=[]:=by simp at hx⊢; omega
  have h2:ys.drop off=[]:=by simp at hy⊢; omega
  rw [h1,h2] at hb; simp [z7v] at hb; subst hb
  simp [Op.eqFields]
 |cons f fs ihf=>
  intro off ks xs ys b hr hx hy hb
  simp only [w2z] at hr
  split at hr
  ·rename_i hc
   obtain ⟨hn,ho⟩:=hc
   split at hr
   ·rename_i k1 hk1
    split at hr
    ·rename_i hs
     cases hq:w2z P (flatK P n) (off+k1.length) fs with
     |none=>rw [hq] at hr; cases hr
     |some k2=>
     rw [hq] at hr; simp at hr; subst hr
     obtain ⟨a,ha⟩:=y1i hk1
     have h1:=y1h hk1 ha
     rw [List.length_append] at hx hy
     obtain ⟨vx,rx,hx1⟩:=z7c (P:=P) hs ha xs off (by omega) h1
     obtain ⟨vy,ry,hy1⟩:=z7c (P:=P) hs ha ys off (by omega) h1
     obtain ⟨b1,b2,e1,e2,rfl⟩:=y7o hb
     rw [List.drop_drop,List.drop_drop] at e2
     have hq1:=ih f.type k1 vx vy _ _ b1 w hk1 hx1 hy1 e1
     have hrest:=ihf (off+k1.length) k2 xs ys b2 hq (by omega) (by omega) e2
     rw [←ho] at rx ry
     simp only [Op.eqFields,hn,ne_eq,not_false_eq_true,if_true,Sem.run_bind,rx,ry,hq1,Result.andThen_ok,Sem.run_ite,Sem.run_pure,hrest]
     cases b1<;>simp
    ·cases hr
   ·cases hr
  ·cases hr
theorem x36 (d:Nat) (e:TypeId) (s:Nat) (a:Bool) (ks:List SK) (hks:ks.length=s) (hs:z8q P e=some s) (ha:z3u P e=some a) (h1:a=false→s=1)
  (ih:∀ (x y:Value) (xs ys:List Value) (b:Bool) (w:World),z91 P e x xs→z91 P e y ys→z7v ks xs ys=some b→(Op.equalIn d e x y).run P w= .ok b w) (xs ys:List Value):
  ∀ (m i:Nat) (b:Bool),xs.length=(i+m)*s→ys.length=(i+m)*s→z7v (List.replicate m ks).flatten (xs.drop (i*s)) (ys.drop (i*s))=some b→
   ((forIn (List.range' i m) ((none,()):Option Bool×Unit) (fun i r=>(do
    let x←Go.part e xs.toArray (i*s)
    let y←Go.part e ys.toArray (i*s)
    let q←Op.equalIn d e x y
    if (!q)=true then pure (.done (some false,())) else pure (.yield (none,())):Sem (ForInStep (Option Bool×Unit))))):Sem (Option Bool×Unit)).run P w
    = .ok (if b then (none,()) else (some false,())) w:=by
 intro m
 induction m with
 |zero=>
  intro i b hx hy hb
  have h1:xs.drop (i*s)=[]:=by simp at hx⊢; omega
  have h2:ys.drop (i*s)=[]:=by simp at hy⊢; omega
  rw [h1,h2] at hb
  simp [z7v] at hb; subst hb
  simp
 |succ m ihm=>
  intro i b hx hy hb
  simp only [List.replicate_succ,List.flatten_cons] at hb
  have hmul:(i+(m+1))*s=i*s+s+m*s:=by rw [Nat.add_mul,Nat.add_mul]; omega
  obtain ⟨b1,b2,e1,e2,rfl⟩:=y7o hb
  rw [hks] at e1 e2
  rw [List.drop_drop,List.drop_drop] at e2
  obtain ⟨vx,rx,hx1⟩:=z7c (P:=P) hs ha xs (i*s) (by omega) h1
  obtain ⟨vy,ry,hy1⟩:=z7c (P:=P) hs ha ys (i*s) (by omega) h1
  have hq:=ih vx vy _ _ b1 w hx1 hy1 e1
  have hrest:=ihm (i+1) b2 (by rw [hx]; congr 1; omega) (by rw [hy]; congr 1; omega) (by rw [Nat.add_mul,Nat.one_mul]; exact e2)
  rw [List.range'_succ,List.forIn_cons]
  simp only [Sem.run_bind,rx,ry,hq,Result.andThen_ok,Sem.run_ite,Sem.run_pure]
  cases b1
  ·simp
  ·simp only [Bool.not_true,Bool.false_eq_true,if_false,Result.andThen_ok,Bool.true_and]
   exact hrest
theorem z52:∀ (n:Nat) (t:TypeId) (ks:List SK),flatK P n t=some ks→z8q P t=some ks.length:=by
 intro n
 cases n with
 |zero=>intro t ks h; simp [flatK] at h
 |succ n=>
  intro t ks h
  simp only [flatK] at h
  split at h
  ·split at h<;>simp_all
  ·cases h
theorem y7m:∀ (n d:Nat),n≤d→∀ (t:TypeId) (ks:List SK) (x y:Value) (xs ys:List Value) (b:Bool) (w:World),flatK P n t=some ks→z91 P t x xs→z91 P t y ys→z7v ks xs ys=some b→
  (Op.equalIn d t x y).run P w= .ok b w:=by
 intro n
 induction n with
 |zero=>intro d _ t ks x y xs ys b w hf; simp [flatK] at hf
 |succ n ih=>
  intro d hd t ks x y xs ys b w hf hx hy hb
  obtain ⟨d,rfl⟩:∃ e,d=e+1:=⟨d - 1,by omega⟩
  have hsz:=z52 _ _ _ hf
  obtain ⟨a,ha,hs,hxa⟩:=hx
  obtain ⟨a',ha',hs',hya⟩:=hy
  rw [ha] at ha'; cases ha'
  have scalar:a=false→∀ k,ks=[k]→eq1 k x y=some b:=by
   intro h0 k hk; subst h0; subst hk; simp at hxa hya; subst hxa; subst hya
   simp only [z7v] at hb
   split at hb
   ·rename_i c e h1 h2; cases hb; cases h2; simpa using h1
   ·cases hb
  unfold z3u at ha
  simp only [flatK] at hf
  split at hf
  rotate_left
  ·cases hf
  rename_i k0 hk0
  split at hf
  rotate_left
  ·cases hf
  cases hf
  unfold w0k at hk0
  cases hu:P.underlying t with
  |none=>simp [hu] at ha
  |some ds=>
   simp [hu] at ha; subst ha
   rw [hu] at hk0
   cases ds<;>simp only at hk0<;>try (cases hk0; done)
   ·cases hk0
    obtain ⟨a,c,rfl,rfl,rfl⟩:=v35 (scalar rfl _ rfl)
    simp [Op.equalIn,z0h hu,beq_toListBytes]
   ·cases hk0
    obtain ⟨k,a,c,rfl,rfl,rfl⟩:=v34 (scalar rfl _ rfl)
    simp [Op.equalIn,z0h hu]
   ·cases hk0
    obtain ⟨a,c,rfl,rfl,rfl⟩:=v33 (scalar rfl _ rfl)
    simp [Op.equalIn,z0h hu,beq_toListBytes]
   ·rename_i m e
    simp [z64] at hxa hya; subst hxa; subst hya
    cases hq:flatK P n e with
    |none=>rw [hq] at hk0; cases hk0
    |some ke=>
    rw [hq] at hk0; simp at hk0; subst hk0
    have hse:=z52 _ _ _ hq
    obtain ⟨ae,hae⟩:=y1i hq
    have hlen:=x5z hb
    have hrep:(List.replicate m ke).flatten.length=m*ke.length:=by simp
    have:=x36 (P:=P) (w:=w) d e ke.length ae ke rfl hse hae (y1h hq hae) (fun x y xs ys b w hx hy hb=>ih d (by omega) e ke x y xs ys b w hq hx hy hb) xs ys m 0 b
     (by rw [hlen.1,hrep]; simp) (by rw [hlen.2,hrep]; simp) (by simpa using hb)
    simp only [Op.equalIn,Sem.run_bind,z0h hu,Result.andThen_ok,z1m hse]
    rw [Std.Legacy.Range.forIn_eq_forIn_range']
    have hsize:([:m]:Std.Legacy.Range).size=m:=by simp [Std.Legacy.Range.size]
    rw [hsize]
    erw [this]
    cases b<;>simp
   ·rename_i fs
    simp [z64] at hxa hya; subst hxa; subst hya
    split at hk0
    ·cases hk0
    ·rename_i hst
     have hpf:P.fieldsOf t=fs:=by simp [Program.fieldsOf,hu]
     rw [run_equalIn_struct w d t _ _ (by rw [hpf]; exact hu) (by simpa using hst),hpf]
     have hlen:=x5z hb
     exact x38 (P:=P) (w:=w) n d (fun t ks x y xs ys b w hf hx hy hb=>ih d (by omega) t ks x y xs ys b w hf hx hy hb) fs.toList 0 _ xs ys b hk0 (by simpa using hlen.1) (by simpa using hlen.2) (by simpa using hb)
end
end Go.Am
end
section
namespace Go.Am
section
variable {P:Program} {ρ:Rho} {h:List AO} {w:World}
theorem y5h {T:TypeId} {O:Nat→Prop} {x:D} {v:Value} (hx:z12 O w x v) {n:Nat} (hn:(z06 x).length=n) (hsz:z8q P T=some n) (ha:z3u P T=some (z10 x)):
  ∃ cs:List Value,z91 P T v cs∧cs.length=n∧∀ (j:Nat) (y:D) (u:Value),(z06 x)[j]?=some y→cs[j]?=some u→z12 O w y u:=by
 have hx0:=hx
 by_cases hag:z10 x=true
 ·cases hx with
  |agg ds vs hl hh=>
   simp [z06] at hn
   refine ⟨vs.toList,⟨true,ha,by rw [hsz]; simp [hl,hn],by simp⟩,by simp [hl,hn],fun j y u hy hu=>?_⟩
   have:=hh j y hy
   rw [z8a (show vs[j]?=some u by simpa using hu)] at this
   exact this
  |_=>cases hag
 ·have hc:z06 x=[x]:=by cases x<;>first|rfl|exact absurd rfl hag
  have hf:z10 x=false:=by simpa using hag
  rw [hc] at hn⊢
  simp at hn; subst hn
  refine ⟨[v],⟨false,by rw [ha,hf],by simpa using hsz,by simp⟩,rfl,fun j y u hy hu=>?_⟩
  cases j with
  |zero=>simp at hy hu; subst hy; subst hu; exact hx0
  |succ j=>simp at hu
theorem y7p {O:Nat→Prop}:∀ (ks:List SK) (xs ys:List D) (xv yv:List Value) (b:Bool),z1p std ks xs ys=some b→xv.length=xs.length→yv.length=ys.length→
  (∀ (j:Nat) (y:D) (u:Value),xs[j]?=some y→xv[j]?=some u→z12 O w y u)→(∀ (j:Nat) (y:D) (u:Value),ys[j]?=some y→yv[j]?=some u→z12 O w y u)→z7v ks xv yv=some b:=by
 intro ks
 induction ks with
 |nil=>
  intro xs ys xv yv b h hx hy _ _
  cases xs<;>cases ys<;>simp [z1p] at h
  cases xv<;>cases yv<;>simp at hx hy
  simp [z7v,h]
 |cons k ks ih=>
  intro xs ys xv yv b h hx hy rx ry
  cases xs with
  |nil=>cases k<;>simp [z1p] at h
  |cons x xs=>
  cases ys with
  |nil=>cases k<;>cases x<;>simp [z1p] at h
  |cons y ys=>
  cases xv with
  |nil=>simp at hx
  |cons u xv=>
  cases yv with
  |nil=>simp at hy
  |cons v yv=>
  have r1:=rx 0 x u (by simp) (by simp)
  have r2:=ry 0 y v (by simp) (by simp)
  have tail:∀ r,z1p std ks xs ys=some r→z7v ks xv yv=some r:=fun r hr=>ih xs ys xv yv r hr (by simpa using hx) (by simpa using hy) (fun j a b ha hb=>rx (j+1) a b (by simpa using ha) (by simpa using hb))
   (fun j a b ha hb=>ry (j+1) a b (by simpa using ha) (by simpa using hb))
  unfold z1p at h
  split at h
  ·rename_i e _ _; cases e
  ·rename_i k1 a _ k2 c _ e1 e2 e3
   cases e1; cases e2; cases e3
   cases r1; cases r2
   cases hkk:(k1==k2) with
   |false=>rw [hkk] at h; cases h
   |true=>
   rw [hkk] at h; simp only [cond_true] at h
   split at h
   ·rename_i r hr; cases h
    have hk:k1=k2:=by simpa using hkk
    subst hk
    simp [z7v,eq1,tail r hr,std,z6a]
   ·cases h
  ·rename_i a _ c _ e1 e2 e3
   cases e1; cases e2; cases e3
   cases r1; cases r2
   split at h
   ·rename_i r hr; cases h; simp [z7v,eq1,tail r hr,std]
   ·cases h
  ·rename_i a _ c _ e1 e2 e3
   cases e1; cases e2; cases e3
   cases r1; cases r2
   split at h
   ·rename_i r hr; cases h; simp [z7v,eq1,tail r hr,std]
   ·cases h
  ·cases h
def x37:Value→Value→Prop
 | .agg _,_=>False
 | .nilIface,_=>False
 |_,_=>True
theorem y4w {op:BinOp} {T:TypeId} (x y:Operand) {a b:Value} (hg:(∀ xs ys,a= .agg xs→b= .agg ys→P.eqGuardType P.depth T=false)) (hn:a= .nilIface→b= .nilIface→False):
  (eqGuard op T x y a b).run P w= .ok () w:=by
 unfold eqGuard
 cases op<;>try (simp; done)
 all_goals
  cases a<;>cases b<;>first
   |(simp; done)
   |(exact (hn rfl rfl).elim)
   |(rename_i xs ys; simp [hg xs ys rfl rfl])
theorem y5o:∀ (ks:List SK) (xs ys:List D) (b:Bool),z1p std ks xs ys=some b→xs.length=ks.length∧ys.length=ks.length:=by
 intro ks
 induction ks with
 |nil=>intro xs ys b h; cases xs<;>cases ys<;>simp [z1p] at h⊢
 |cons k ks ih=>
  intro xs ys b h
  cases xs with
  |nil=>cases k<;>simp [z1p] at h
  |cons x xs=>
  cases ys with
  |nil=>cases k<;>cases x<;>simp [z1p] at h
  |cons y ys=>
  have tail:∀ r,z1p std ks xs ys=some r→(x::xs).length=(k::ks).length∧(y::ys).length=(k::ks).length:=by
   intro r hr; have:=ih _ _ _ hr; simp; omega
  unfold z1p at h
  split at h
  ·rename_i e _ _; cases e
  ·rename_i k1 _ _ k2 _ _ e1 e2 e3
   cases e1; cases e2; cases e3
   cases hkk:(k1==k2) with
   |false=>rw [hkk] at h; cases h
   |true=>
   rw [hkk] at h; simp only [cond_true] at h
   split at h
   ·rename_i hr; exact tail _ hr
   ·cases h
  ·rename_i e1 e2 e3
   cases e1; cases e2; cases e3
   split at h
   ·rename_i hr; exact tail _ hr
   ·cases h
  ·rename_i e1 e2 e3
   cases e1; cases e2; cases e3
   split at h
   ·rename_i hr; exact tail _ hr
   ·cases h
  ·cases h
theorem y7l:∃ n,∀ T x y,Op.equal T x y=Op.equalIn (n+1) T x y:=⟨9999,fun _ _ _=>rfl⟩
theorem v31 {T:TypeId} {ti:TI} (ht:z8m P T ti) {x y:AV} {vx vy:Value} (hx:z0t ρ (z0i ρ h) w x vx) (hy:z0t ρ (z0i ρ h) w y vy) {b:Bool} (hb:eqA std ti x y=some b):
  (Op.equal T vx vy).run P w= .ok b w∧(∀ xs ys,vx= .agg xs→vy= .agg ys→P.eqGuardType P.depth T=false)∧(vx= .nilIface→vy= .nilIface→False):=by
 obtain ⟨d,hd,hda,hk⟩:=ht.desc
 unfold eqA at hb
 split at hb
 ·rename_i ks a c hks
  obtain ⟨hf,hg⟩:=ht.eqk ks hks
  cases hc:((z10 a==ti.agg)&&(z10 c==ti.agg)) with
  |false=>rw [hc] at hb; cases hb
  |true=>
  rw [hc] at hb; simp only [cond_true] at hb
  simp only [Bool.and_eq_true,beq_iff_eq] at hc
  obtain ⟨l1,l2⟩:=y5o ks _ _ _ hb
  cases hx with
  |d hx=>cases hy with
   |d hy=>
    have hsz:=z52 _ _ _ hf
    obtain ⟨xs,h1,h2,h3⟩:=y5h (P:=P) (T:=T) hx l1 hsz (by rw [hc.1]; exact ht.agg)
    obtain ⟨ys,g1,g2,g3⟩:=y5h (P:=P) (T:=T) hy l2 hsz (by rw [hc.2]; exact ht.agg)
    refine ⟨y7m 8 Op.maxDepth (by decide) T ks vx vy xs ys b w hf h1 g1 (y7p ks _ _ xs ys b hb (h2.trans l1.symm) (g2.trans l2.symm) h3 g3),fun _ _ _ _=>hg,?_⟩
    intro e1 e2; subst e1; cases hx
    unfold z1p at hb
    split at hb<;>simp_all [z06]
 ·obtain ⟨m,hm⟩:=y7l
  rw [hm]
  unfold w0s at hb
  split at hb<;>(try (cases hb; done))<;>(split at hb<;>(try (cases hb; done)))<;>cases hb
  all_goals rename_i hdesc; rw [hdesc] at hk
  ·obtain ⟨_,_,_,rfl⟩:=hk
   cases hx with|d hx=>cases hy with|d hy=>
   cases hx; cases hy
   exact ⟨by simp [Op.equalIn,z0h hd],by simp,by simp⟩
  ·obtain ⟨_,_,_,rfl⟩:=hk
   cases hx with|d hx=>
   cases hx; cases hy
   exact ⟨by simp [Op.equalIn,z0h hd],by simp,by simp⟩
  ·obtain ⟨_,_,_,rfl⟩:=hk
   cases hy with|d hy=>
   cases hy; cases hx
   exact ⟨by simp [Op.equalIn,z0h hd],by simp,by simp⟩
  ·rename_i q
   have:∃ e,d= .pointer e:=by
    cases q with
    |none=>exact hk
    |some q=>obtain ⟨e,_,rfl,_⟩:=hk; exact ⟨e,rfl⟩
   obtain ⟨e,rfl⟩:=this
   cases hx with|d hx=>cases hy with|d hy=>
   cases hx; cases hy
   exact ⟨by simp [Op.equalIn,z0h hd],by simp,by simp⟩
  ·rename_i q
   have:∃ e,d= .pointer e:=by
    cases q with
    |none=>exact hk
    |some q=>obtain ⟨e,_,rfl,_⟩:=hk; exact ⟨e,rfl⟩
   obtain ⟨e,rfl⟩:=this
   cases hx with|d hx=>
   cases hx; cases hy
   exact ⟨by simp [Op.equalIn,z0h hd],by simp,by simp⟩
  ·rename_i q
   have:∃ e,d= .pointer e:=by
    cases q with
    |none=>exact hk
    |some q=>obtain ⟨e,_,rfl,_⟩:=hk; exact ⟨e,rfl⟩
   obtain ⟨e,rfl⟩:=this
   cases hy with|d hy=>
   cases hy; cases hx
   exact ⟨by simp [Op.equalIn,z0h hd],by simp,by simp⟩
  ·obtain ⟨_,rfl⟩:=hk
   cases hy with|d hy=>
   cases hy; cases hx
   exact ⟨by simp [Op.equalIn,z0h hd],by simp,by simp⟩
  ·obtain ⟨_,rfl⟩:=hk
   cases hx with|d hx=>
   cases hx; cases hy
   exact ⟨by simp [Op.equalIn,z0h hd],by simp,by simp⟩
def Odd (x y:Value):Prop:=
 match x,y with
 | .int _ _, .int _ _| .float _ _, .float _ _| .complex _ _ _, .complex _ _ _| .string _, .string _=>False
 |_,_=>True
theorem y5x {T:TypeId} {x y:Value} (h:Odd x y):binOp .eql T x y=(do pure (.bool (←Op.equal T x y))):=by
 unfold binOp
 split<;>simp_all [Odd]
theorem y5w {T:TypeId} {x y:Value} (h:Odd x y):binOp .neq T x y=(do pure (.bool (!(←Op.equal T x y)))):=by
 unfold binOp
 split<;>simp_all [Odd]
theorem w0u {ti:TI} {x y:AV} (h:x= .bot∨y= .bot):eqA std ti x y=none:=by
 rcases h with rfl|rfl
 ·cases ti with|mk a b c d e f=>cases f<;>simp [eqA,w0s]
 ·cases ti with|mk a b c d e f=>cases f<;>cases x<;>simp [eqA,w0s]<;>(rename_i z; cases z<;>simp [w0s])
theorem y8l (op:BinOp) (T:TypeId) (k:IntKind) (a b:Int) (hop:z96 op= .comp):(binOp op T (.int k a) (.int k b)).run P w= .ok (.bool (z6a op a b)) w:=by
 have:=z4f (P:=P) (w:=w) op T k a b (by rw [hop]; simp) (by rw [hop]; simp)
 rw [hop] at this; exact this
theorem z6q {op:BinOp} {T:TypeId} (x y:Operand) {a b:Value} (h:x37 a b):(eqGuard op T x y a b).run P w= .ok () w:=
 y4w x y (fun xs ys e1 e2=>by subst e1; exact h.elim) (fun e1 e2=>by subst e1; exact h.elim)
theorem w7q {y:Operand} (h:v1w y=true):y= .const (.slice none 0 0):=by
 unfold v1w at h
 split at h
 ·rfl
 ·cases h
theorem y8b {T:TypeId} {ti:TI} (ht:z8m P T ti) (hr:z0c P ρ h w) {new:Nat} {op:BinOp} (ox oy:Operand) {x:AV} {vx:Value} (hx:z0t ρ (z0i ρ h) w x vx)
  {res:Res} (hs:z9j std ti op x=some res) (hc:res.c=true):z0r P ρ h w new (do eqGuard op T ox oy vx (.slice none 0 0); binOp op T vx (.slice none 0 0)) res:=by
 obtain ⟨d,hd,_,hk⟩:=ht.desc
 obtain ⟨m,hm⟩:=y7l
 have list:∀ full z es,z0t ρ (z0i ρ h) w (.d (.list full z es)) vx→std.leN 1 (std.len es)=true→∃ a n c,vx= .slice (some a) n c:=by
  intro full z es hx hl
  have:=Nat.le_of_ble_eq_true hl
  cases hx with|d hx=>
  cases hx with
  |lnil=>simp [std] at this
  |list _ _ b o _ c=>exact ⟨_,_,_,rfl⟩
 have slice:∀ id z off len cap,z0t ρ (z0i ρ h) w (.slice id z off len cap) vx→std.leN 1 len=true→∃ a n c,vx= .slice (some a) n c:=by
  intro id z off len cap hx hl
  have:=Nat.le_of_ble_eq_true hl
  cases hx with
  |nils=>omega
  |slice _ _ _ _ _ L a c _ _ ha _ hle=>rw [ha (by omega)]; exact ⟨_,_,_,rfl⟩
 unfold z9j at hs
 split at hs<;>(try (cases hs; done))<;>cases hs<;>rename_i hdesc<;>rw [hdesc] at hk<;>obtain ⟨rfl,_⟩:=hk
 ·obtain ⟨a,n,c,rfl⟩:=list _ _ _ hx hc
  exact z0r.pure hr (by rw [y5x (by trivial),hm]; simp [eqGuard,Op.equalIn,z0h hd]) (.d (.bool _))
 ·obtain ⟨a,n,c,rfl⟩:=list _ _ _ hx hc
  exact z0r.pure hr (by rw [y5w (by trivial),hm]; simp [eqGuard,Op.equalIn,z0h hd]) (.d (.bool _))
 ·obtain ⟨a,n,c,rfl⟩:=slice _ _ _ _ _ hx hc
  exact z0r.pure hr (by rw [y5x (by trivial),hm]; simp [eqGuard,Op.equalIn,z0h hd]) (.d (.bool _))
 ·obtain ⟨a,n,c,rfl⟩:=slice _ _ _ _ _ hx hc
  exact z0r.pure hr (by rw [y5w (by trivial),hm]; simp [eqGuard,Op.equalIn,z0h hd]) (.d (.bool _))
theorem x6r {T:TypeId} {ti:TI} (ht:z8m P T ti) (hr:z0c P ρ h w) {new:Nat} {op:BinOp} (ox oy:Operand) {x y:AV} {vx vy:Value} (hx:z0t ρ (z0i ρ h) w x vx) (hy:z0t ρ (z0i ρ h) w y vy)
  {res:Res} (hs:y8e std ti op x y=some res) (hc:res.c=true):z0r P ρ h w new (do eqGuard op T ox oy vx vy; binOp op T vx vy) res:=by
 unfold y8e at hs
 split at hs
 ·rename_i k a k' b
  cases hx with|d hx=>cases hy with|d hy=>
  cases hx; cases hy
  have hg:(eqGuard op T ox oy (.int k a) (.int k' b)).run P w= .ok () w:=z6q ox oy trivial
  split at hs
  ·rename_i hop
   cases hkk:(k==k') with
   |false=>rw [hkk] at hs; cases hs
   |true=>
   rw [hkk] at hs; simp at hkk; subst hkk; cases hs
   have:=z4f (P:=P) (w:=w) op T k a b (by rw [hop]; simp) (by rw [hop]; simp)
   rw [hop] at this
   exact z0r.pure hr (by simp only [Sem.run_bind,hg,Result.andThen_ok]; exact this) (.d (.int _ _))
  ·rename_i hop
   cases hkk:(k==k') with
   |false=>rw [hkk] at hs; cases hs
   |true=>
   rw [hkk] at hs; simp at hkk; subst hkk; cases hs
   have:=z4f (P:=P) (w:=w) op T k a b (by rw [hop]; simp) (by rw [hop]; simp)
   rw [hop] at this
   exact z0r.pure hr (by simp only [Sem.run_bind,hg,Result.andThen_ok]; exact this) (.d (.int _ _))
  ·rename_i hop
   cases hkk:(k==k') with
   |false=>rw [hkk] at hs; cases hs
   |true=>
   rw [hkk] at hs; simp at hkk; subst hkk; cases hs
   have hb0:b≠0:=by simpa [std,z6a] using hc
   have:=z4f (P:=P) (w:=w) op T k a b (fun _=>hb0) (by rw [hop]; simp)
   rw [hop] at this
   exact z0r.pure hr (by simp only [Sem.run_bind,hg,Result.andThen_ok]; exact this) (.d (.int _ _))
  ·rename_i hop
   cases hs
   have:=y4x (P:=P) (w:=w) op T k k' a b hop (z3a hc)
   exact z0r.pure hr (by simp only [Sem.run_bind,hg,Result.andThen_ok]; exact this) (.d (.int _ _))
  ·rename_i hop
   cases hkk:(k==k') with
   |false=>rw [hkk] at hs; cases hs
   |true=>
   rw [hkk] at hs; simp at hkk; subst hkk; cases hs
   exact z0r.pure hr (by simp only [Sem.run_bind,hg,Result.andThen_ok]; exact y8l op T k a b hop) (.d (.bool _))
 ·rename_i a b
  cases hx with|d hx=>cases hy with|d hy=>
  cases hx; cases hy
  split at hs
  ·cases hs
   exact z0r.pure hr (by simp [z6q (P:=P) (w:=w) (op:= .eql) (T:=T) ox oy (a:= .string a) (b:= .string b) trivial,binOp,Op.stringOp,std]) (.d (.bool _))
  ·cases hs
   exact z0r.pure hr (by simp [z6q (P:=P) (w:=w) (op:= .neq) (T:=T) ox oy (a:= .string a) (b:= .string b) trivial,binOp,Op.stringOp,std]) (.d (.bool _))
  ·cases hs
 ·rename_i hni hns
  have scal:∀ b,eqA std ti x y=some b→∀ op,op= .eql∨op= .neq→(binOp op T vx vy).run P w= .ok (.bool (if op= .eql then b else !b)) w∧(eqGuard op T ox oy vx vy).run P w= .ok () w:=by
   intro b hb op hop
   obtain ⟨h1,h2,h3⟩:=v31 ht hx hy hb
   refine ⟨?_,y4w ox oy h2 h3⟩
   have hodd:Odd vx vy:=by
    cases hx with
    |bot=>rw [w0u (.inl rfl)] at hb; cases hb
    |d hx=>
     cases hy with
     |bot=>rw [w0u (.inr rfl)] at hb; cases hb
     |d hy=>
      cases hx<;>first
       |(cases hy<;>first|trivial|exact (hni _ _ _ _ rfl rfl).elim|exact (hns _ _ rfl rfl).elim)
     |_=>cases hx<;>trivial
    |_=>cases hy<;>trivial
   rcases hop with rfl|rfl
   ·rw [y5x hodd]; simp [h1]
   ·rw [y5w hodd]; simp [h1]
  split at hs
  ·cases hq:eqA std ti x y with
   |none=>rw [hq] at hs; cases hs
   |some b=>
   rw [hq] at hs; cases hs
   obtain ⟨h1,h2⟩:=scal b hq .eql (.inl rfl)
   exact z0r.pure hr (by simp only [Sem.run_bind,h2,Result.andThen_ok]; exact h1) (.d (.bool _))
  ·cases hq:eqA std ti x y with
   |none=>rw [hq] at hs; cases hs
   |some b=>
   rw [hq] at hs; cases hs
   obtain ⟨h1,h2⟩:=scal b hq .neq (.inr rfl)
   exact z0r.pure hr (by simp only [Sem.run_bind,h2,Result.andThen_ok]; exact h1) (.d (.bool _))
  ·cases hs
end
end Go.Am
end
section
namespace Go.Am
def Els.toA:Els→List (List AV)
 | .d es=>z58 es
 | .a es=>es
def AO.rows:AO→Option (List (List AV))
 | .row es=>some (z58 es)
 | .arow es=>some es
 |_=>none
theorem z30 (es:List (List D)):z58 es=es.map toA:=by
 induction es with
 |nil=>rfl
 |cons r l ih=>simp [z58,ih]
theorem z3b (es:List (List D)) (i:Nat):(z58 es)[i]?=(es[i]?).map toA:=by rw [z30]; simp
theorem z03 (es:List (List D)):(z58 es).length=es.length:=by rw [z30]; simp
section
variable {P:Program} {ρ:Rho} {h:List AO} {w:World}
def z2t (ρ:Rho) (O:Nat→Prop) (w:World) (z:Nat) (es:List (List AV)) (cs:List Value):Prop:=
 cs.length=es.length*z∧(∀ (i:Nat) (r:List AV),es[i]?=some r→r.length=z)∧
  ∀ (i:Nat) (r:List AV) (j:Nat) (y:AV),es[i]?=some r→r[j]?=some y→∃ v,cs[i*z+j]?=some v∧v.oneCell'=true∧z0t ρ O w y v
theorem z2t.keep {ρ':Rho} {O O':Nat→Prop} {w':World} {z:Nat} {es:List (List AV)} {cs:List Value} (k:z5n O O' w w') (hρ:∀ id L,ρ id=some L→ρ' id=some L) (h:z2t ρ O w z es cs):
  z2t ρ' O' w' z es cs:=
 ⟨h.1,h.2.1,fun i r j y hi hj=>let ⟨v,hv,h1,hr⟩:=h.2.2 i r j y hi hj; ⟨v,hv,h1,hr.keep k hρ⟩⟩
theorem z2t.nil (O:Nat→Prop) (z:Nat):z2t ρ O w z [] []:=⟨by simp,by simp,by simp⟩
theorem x1i {z k n:Nat} (hz:0<z) (h:k<n*z):k / z<n∧k % z<z∧k=k / z*z+k % z:=by
 refine ⟨(Nat.div_lt_iff_lt_mul hz).2 h,Nat.mod_lt _ hz,?_⟩
 rw [Nat.mul_comm]; exact (Nat.div_add_mod k z).symm
theorem z2t.append {O:Nat→Prop} {z:Nat} {a b:List (List AV)} {x y:List Value} (ha:z2t ρ O w z a x) (hb:z2t ρ O w z b y):z2t ρ O w z (a++b) (x++y):=by
 obtain ⟨a1,a2,a3⟩:=ha
 obtain ⟨b1,b2,b3⟩:=hb
 refine ⟨by simp [a1,b1,Nat.add_mul],fun i r hi=>?_,fun i r j v hi hj=>?_⟩
 ·rw [List.getElem?_append] at hi
  split at hi
  ·exact a2 i r hi
  ·exact b2 _ r hi
 ·rw [List.getElem?_append] at hi
  split at hi
  ·rename_i hlt
   obtain ⟨u,hu,h1,hr⟩:=a3 i r j v hi hj
   refine ⟨u,?_,h1,hr⟩
   rw [List.getElem?_append_left]
   ·exact hu
   ·exact (List.getElem?_eq_some_iff.1 hu).1
  ·rename_i hge
   obtain ⟨u,hu,h1,hr⟩:=b3 _ r j v hi hj
   refine ⟨u,?_,h1,hr⟩
   have e:i*z=a.length*z+(i - a.length)*z:=by rw [←Nat.add_mul]; congr 1; omega
   rw [List.getElem?_append_right (by rw [a1]; omega),a1,show i*z+j - a.length*z=(i - a.length)*z+j by omega]
   exact hu
theorem z17.rows {O:Nat→Prop} {L:Loc} {o:AO} {es:List (List AV)} (ho:o.rows=some es) (h:z17 P ρ O w L o):
  0<L.esz∧∃ (c:Array Value) (t:TypeId),w.heap[L.blk]?=some (.cells c t (0,0))∧(∀ (i:Nat) (r:List AV),es[i]?=some r→r.length=L.esz)∧
   ∀ (i:Nat) (r:List AV) (j:Nat) (y:AV),es[i]?=some r→r[j]?=some y→∃ v,c[L.base+i*L.esz+j]?=some v∧v.oneCell'=true∧z0t ρ O w y v:=by
 cases o<;>simp [AO.rows] at ho
 ·subst ho
  obtain ⟨hz,c,t,hc,hl,hj⟩:=h
  refine ⟨hz,c,t,hc,fun i r hi=>?_,fun i r j y hi hy=>?_⟩
  ·rw [z3b] at hi
   rename_i es
   cases hq:es[i]? with
   |none=>simp [hq] at hi
   |some q=>simp [hq] at hi; subst hi; rw [z08]; exact hl i q hq
  ·rename_i es
   rw [z3b] at hi
   cases hq:es[i]? with
   |none=>simp [hq] at hi
   |some q=>
    simp [hq] at hi; subst hi
    rw [z1y] at hy
    cases hq2:q[j]? with
    |none=>simp [hq2] at hy
    |some d=>
     simp [hq2] at hy; subst hy
     obtain ⟨v,hv,h1,hr⟩:=hj i q j d hq hq2
     exact ⟨v,hv,h1, .d hr⟩
 ·subst ho; exact h
theorem z17.of_rows {O:Nat→Prop} {L:Loc} {o:AO} {es:List (List AV)} (ho:o.rows=some es) (hz:0<L.esz) (c:Array Value) (t:TypeId) (hc:w.heap[L.blk]?=some (.cells c t (0,0)))
  (hl:∀ (i:Nat) (r:List AV),es[i]?=some r→r.length=L.esz)
  (hj:∀ (i:Nat) (r:List AV) (j:Nat) (y:AV),es[i]?=some r→r[j]?=some y→∃ v,c[L.base+i*L.esz+j]?=some v∧v.oneCell'=true∧z0t ρ O w y v):z17 P ρ O w L o:=by
 cases o<;>simp [AO.rows] at ho
 ·subst ho
  rename_i es
  refine ⟨hz,c,t,hc,fun i r hi=>?_,fun i r j y hi hy=>?_⟩
  ·have:=hl i (toA r) (by rw [z3b,hi]; rfl)
   rwa [z08] at this
  ·obtain ⟨v,hv,h1,hr⟩:=hj i (toA r) j (.d y) (by rw [z3b,hi]; rfl) (by rw [z1y,hy]; rfl)
   cases hr with|d hr=>exact ⟨v,hv,h1,hr⟩
 ·subst ho; exact ⟨hz,c,t,hc,hl,hj⟩
theorem x4v {O:Nat→Prop} {z:Nat} (hz:0<z) {es:List (List AV)} (n:Nat) (f:Nat→Option Value)
  (hl:∀ (i:Nat) (r:List AV),es[i]?=some r→r.length=z) (hn:n=es.length)
  (hj:∀ (i:Nat) (r:List AV) (j:Nat) (y:AV),es[i]?=some r→r[j]?=some y→∃ v,f (i*z+j)=some v∧v.oneCell'=true∧z0t ρ O w y v):
  ∃ cs:List Value,z2t ρ O w z es cs∧∀ (k:Nat) (v:Value),cs[k]?=some v→f k=some v:=by
 have hall:∀ k,k<n*z→∃ v,f k=some v:=by
  intro k hk
  obtain ⟨h1,h2,h3⟩:=x1i hz hk
  have hr:es[k / z]?=some es[k / z]:=List.getElem?_eq_getElem (by omega)
  have h2':k % z<(es[k / z]).length:=by rw [hl _ _ hr]; exact h2
  have hy:(es[k / z])[k % z]?=some (es[k / z])[k % z]:=List.getElem?_eq_getElem h2'
  obtain ⟨v,hv,_,_⟩:=hj _ _ _ _ hr hy
  exact ⟨v,by rw [h3]; exact hv⟩
 refine ⟨(List.range (n*z)).map (fun k=>(f k).getD undef),⟨by simp [hn],hl,fun i r j y hi hy=>?_⟩,fun k v hv=>?_⟩
 ·obtain ⟨v,hv,hv1,hr⟩:=hj i r j y hi hy
  have h1:=(List.getElem?_eq_some_iff.1 hi).1
  have h2:=(List.getElem?_eq_some_iff.1 hy).1
  rw [hl i r hi] at h2
  have:i*z+j<n*z:=by
   have:(i+1)*z≤n*z:=Nat.mul_le_mul_right _ (by omega)
   rw [Nat.add_mul] at this; omega
  exact ⟨v,by simp [this,hv],hv1,hr⟩
 ·have hk:k<n*z:=by
   have:=(List.getElem?_eq_some_iff.1 hv).1
   simpa using this
  rw [List.getElem?_map,List.getElem?_range hk] at hv
  obtain ⟨u,hu⟩:=hall k hk
  simp [hu] at hv; rw [hu,hv]
theorem z2v {a b:Nat} (h:std.leN a b=true):a≤b:=Nat.le_of_ble_eq_true h
theorem y1k (hr:z0c P ρ h w) {z:Nat} (hz:0<z) {x:AV} {v:Value} (hx:z0t ρ (z0i ρ h) w x v) {c:Bool} {els:Els} (he:z37 std z h x=some (c,els)) (hc:c=true):
  ∃ (a:Option Addr) (n cap:Nat) (cs:List Value),v= .slice a n cap∧n=z7u std x∧n≤cap∧els.toA.length=n∧z2t ρ (z0i ρ h) w z els.toA cs∧
   ∀ w':World,w'.heap=w.heap→(Builtin.firstCells z n v).run P w'= .ok cs.toArray w':=by
 have hcell':∀ (w':World) (a:Addr),w'.heap=w.heap→w'.cell? a=w.cell? a:=fun w' a e=>by unfold World.cell?; rw [e]
 unfold z37 at he
 split at he
 ·rename_i full z0 es
  cases hx with
  |d hx=>cases hx with
   |lnil _ _ a cap hcap=>
    have he2:els= .d []:=by
     cases hb:Nat.beq z z0<;>rw [hb] at he<;>cases he<;>rfl
    subst he2
    refine ⟨a,0,cap,[],rfl,rfl,Nat.zero_le _,rfl, .nil _ _,fun w' hw'=>?_⟩
    cases a<;>simp [Builtin.firstCells,loadCells,loadCellsFrom]
   |list _ _ b o z' cap hz' hne hO hlc hf hsz cell hone hcell hh=>
    cases hb:Nat.beq z z0 with
    |false=>
     rw [hb] at he
     cases es with
     |nil=>exact absurd rfl hne
     |cons _ _=>cases he
    |true=>
    rw [hb] at he; cases he
    have hzz:=Nat.eq_of_beq_eq_true hb
    subst hzz
    obtain ⟨cs,h1,h2⟩:=x4v (ρ:=ρ) (w:=w) (O:=z0i ρ h) hz (es:=z58 es) es.length (fun k=>w.cell? ⟨b,o+k,none⟩) (fun i r hi=>by
      rw [z3b] at hi
      cases hq:es[i]? with
      |none=>simp [hq] at hi
      |some q=>simp [hq] at hi; subst hi; rw [z08]; exact hsz i q hq) (z03 es).symm (fun i r j y hi hy=>by
      rw [z3b] at hi
      cases hq:es[i]? with
      |none=>simp [hq] at hi
      |some q=>
       simp [hq] at hi; subst hi
       rw [z1y] at hy
       cases hq2:q[j]? with
       |none=>simp [hq2] at hy
       |some d=>
        simp [hq2] at hy; subst hy
        have g1:=(List.getElem?_eq_some_iff.1 hq).1
        have g2:=(List.getElem?_eq_some_iff.1 hq2).1
        rw [hsz i q hq] at g2
        have hlt:i*z+j<es.length*z:=by
         have:(i+1)*z≤es.length*z:=Nat.mul_le_mul_right _ g1
         rw [Nat.add_mul] at this; omega
        exact ⟨_,hcell _ hlt,hone _ hlt, .d (hh i q j d hq hq2)⟩)
    refine ⟨_,es.length,cap,cs,rfl,rfl,hlc,z03 es,h1,fun w' hw'=>?_⟩
    have hlen:cs.length=es.length*z:=by rw [h1.1,z03]
    have:=run_loadCells_list (P:=P) w' ⟨b,o,none⟩ cs (fun j v hv=>by rw [z49,hcell' _ _ hw']; exact h2 j v hv)
    rw [hlen] at this
    exact this
 ·rename_i id z' off len cap
  cases hb:Nat.beq z z' with
  |false=>rw [hb] at he; cases he
  |true=>
  rw [hb] at he; simp only [cond_true] at he
  have hzz:=Nat.eq_of_beq_eq_true hb
  subst hzz
  cases hx with
  |nils _ _ _ _ a hcc=>
   have e0:els.toA=[]:=by
    split at he
    ·cases he; simp [Els.toA,std,z58]
    ·cases he; simp [Els.toA]
    ·cases he
   refine ⟨a,0,0,[],rfl,rfl,Nat.zero_le _,by rw [e0]; rfl,by rw [e0]; exact .nil _ _,fun w' hw'=>?_⟩
   cases a<;>simp [Builtin.firstCells,loadCells,loadCellsFrom]
  |slice _ _ _ _ _ L a cc hL hLz haa hcc hle=>
  obtain ⟨_,ho⟩:=hr.obj id L hL
  have key:∀ (o:AO) (es:List (List AV)),z0j h id=o→o.rows=some es→off+len≤es.length→els.toA=(es.drop off).take len→
    ∃ (a':Option Addr) (n cap':Nat) (cs:List Value),Value.slice a len cc= .slice a' n cap'∧n=z7u std (.slice id z off len cap)∧n≤cap'∧els.toA.length=n∧z2t ρ (z0i ρ h) w z els.toA cs∧
     ∀ w':World,w'.heap=w.heap→(Builtin.firstCells z n (.slice a len cc)).run P w'= .ok cs.toArray w':=by
   intro o es ho1 ho2 hle2 hels
   rw [ho1] at ho
   obtain ⟨_,c,t,hcb,hl,hj⟩:=ho.rows ho2
   rw [hLz] at hl hj
   have hlen:((es.drop off).take len).length=len:=by simp; omega
   have hget:∀ i,((es.drop off).take len)[i]?=if i<len then es[off+i]? else none:=fun i=>z1h es off len i
   obtain ⟨cs,h1,h2⟩:=x4v (ρ:=ρ) (w:=w) (O:=z0i ρ h) hz (es:=(es.drop off).take len) len (fun k=>c[L.base+off*z+k]?) (fun i r hi=>by
     rw [hget] at hi; split at hi
     ·exact hl _ r hi
     ·cases hi) hlen.symm (fun i r j y hi hy=>by
     rw [hget] at hi; split at hi
     ·obtain ⟨v,hv,h1,hrel⟩:=hj _ r j y hi hy
      refine ⟨v,?_,h1,hrel⟩
      rw [←hv]; congr 1; rw [Nat.add_mul]; omega
     ·cases hi)
   refine ⟨a,len,cc,cs,rfl,rfl,hle,by rw [hels,hlen],by rw [hels]; exact h1,fun w' hw'=>?_⟩
   have hcl:cs.length=len*z:=by rw [h1.1,hlen]
   by_cases hc0:0<cc
   ·rw [haa hc0,hLz]
    have:=run_loadCells_list (P:=P) w' ⟨L.blk,L.base+off*z,none⟩ cs (fun j v hv=>by rw [z49,hcell' _ _ hw']; exact z5l hcb (h2 j v hv))
    rw [hcl] at this
    exact this
   ·have hl0:len=0:=by omega
    subst hl0
    have:cs=[]:=by simpa using hcl
    subst this
    cases a<;>simp [Builtin.firstCells,loadCells,loadCellsFrom]
  split at he
  ·rename_i es hob
   cases he
   refine key _ (z58 es) hob rfl ?_ ?_
   ·rw [z03]; exact z2v hc
   ·simp [Els.toA,std,z30]
  ·rename_i es hob
   cases he
   exact key _ es hob rfl (z2v hc) rfl
  ·cases he
 ·cases he
end
end Go.Am
end
section
namespace Go.Am
theorem x1k (n:Nat):∀ (f c:Nat),c≤n→Builtin.growBy n f c≤2*n+1000
 |0,c,h=>by simp [Builtin.growBy]; omega
 |f+1,c,h=>by
  simp only [Builtin.growBy]
  split
  ·omega
  ·by_cases h2:c+(c+768) / 4≤n
   ·exact x1k n f _ h2
   ·have:∀ f,Builtin.growBy n f (c+(c+768) / 4)≤c+(c+768) / 4:=by
     intro f
     cases f with
     |zero=>simp [Builtin.growBy]
     |succ f=>simp only [Builtin.growBy]; rw [if_pos (by omega)]; omega
    have:=this f; omega
theorem x69 (n o:Nat) (h:o<n):Builtin.nextslicecap n o≤2*n+1000:=by
 unfold Builtin.nextslicecap
 split
 ·omega
 ·split
  ·omega
  ·exact x1k n 4 o (by omega)
section
variable {P:Program} {ρ:Rho} {h:List AO} {w:World}
theorem z8r {S T2:TypeId} {e:TypeId} (hS:P.underlying S=some (.slice e)) {d2:TypeDesc} (h2:P.underlying T2=some d2) (hd2:∀ k,d2≠ .int k) {z eb:Nat} (hz:z8q P e=some z) (heb:y0t P e=some eb) {zs:List D} (hzero:y36 P e=some zs)
  (ty:TypeId) {a a2:Option Addr} {n cap m cap2:Nat} {cs xs:List Value} (hs:∀ w':World,w'.heap=w.heap→(Builtin.firstCells z n (.slice a n cap)).run P w'= .ok cs.toArray w') (hx:∀ w':World,w'.heap=w.heap→(Builtin.firstCells z m (.slice a2 m cap2)).run P w'= .ok xs.toArray w')
  (hm:cap<n+m) (hn:n≤cap) (hb:n+m≤z5p) (hbb:eb≤60000):
  ∃ (rest:List Value) (nc d:Nat),(Builtin.append_ #[S,T2] ty #[.slice a n cap, .slice a2 m cap2]).run P w= .ok (.slice (some ⟨w.heap.size,0,none⟩) (n+m) nc) { (World.push w (.cells (cs++xs++rest).toArray e)) with drawn:=d }∧
   n+m≤nc∧rest.length=(nc - (n+m))*zs.length∧z00 w.drawn d:=by
 have hbytes:∃ i,P.info? e=some i∧i.bytes=eb:=by
  unfold y0t at heb
  cases hi:P.info? e with
  |none=>simp [hi] at heb
  |some i=>exact ⟨i,rfl,by simpa [hi] using heb⟩
 obtain ⟨i,hi,hib⟩:=hbytes
 have hzz:∃ zv,i.zero=some zv∧y1l zv.cells.toList=some zs:=by
  unfold y36 at hzero
  rw [hi] at hzero
  simp only [Option.bind_some] at hzero
  cases hq:i.zero with
  |none=>simp [hq] at hzero
  |some zv=>exact ⟨zv,rfl,by simpa [hq] using hzero⟩
 obtain ⟨zv,hzv,hzl⟩:=hzz
 have hnext:¬ (Builtin.nextslicecap (n+m) cap*eb>2 ^ 48):=by
  have h1:=x69 (n+m) cap hm
  unfold z5p at hb
  have:Builtin.nextslicecap (n+m) cap*eb≤2001000*60000:=Nat.mul_le_mul (by omega) hbb
  omega
 have hti:(typeInfo e).run P w= .ok i w:=by simp [typeInfo,hi]
 have hlen:¬ ((n+m:Nat):Int)>IntKind.i64.max:=by
  unfold z5p at hb
  simp [IntKind.max,IntKind.signed,IntKind.bits]; omega
 have hmatch:(match d2 with| .int _=>true|_=>false)=false:=by
  cases d2<;>first|rfl|exact absurd rfl (hd2 _)
 refine ⟨(Builtin.zeroCells zv.cells ((Question.appendCap (n+m) cap e).cut (w.tape w.drawn (.appendCap (n+m) cap e)) - (n+m))).toList,(Question.appendCap (n+m) cap e).cut (w.tape w.drawn (.appendCap (n+m) cap e)),w.drawn+1,?_,?_,?_,z00.succ _⟩
 ·have hzw:∀ w,(zeroValue e).run P w= .ok zv w:=fun w=>by simp [zeroValue,typeInfo,hi,hzv]
  have hs':∀ d,(Builtin.firstCells z n (.slice a n cap)).run P { w with drawn:=d }= .ok cs.toArray { w with drawn:=d }:=fun d=>hs _ rfl
  have hx':∀ d,(Builtin.firstCells z m (.slice a2 m cap2)).run P { w with drawn:=d }= .ok xs.toArray { w with drawn:=d }:=fun d=>hx _ rfl
  have hti':∀ w,(typeInfo e).run P w= .ok i w:=fun w=>by simp [typeInfo,hi]
  unfold Builtin.append_
  simp only [List.getElem?_toArray,List.getElem?_cons_zero,List.getElem?_cons_succ,Sem.run_bind,z0h hS,Result.andThen_ok,z1m hz,z0h h2,Sem.run_pure,hmatch,Builtin.lenOf,Bool.false_eq_true,if_false,Sem.run_ite,show ¬ (n+m≤cap) by omega,hlen,false_and,
   hti',hib,hnext,run_choose,Question.forced,run_askRoom,hs',hx',hzw,newRow,run_newObj,not_false_eq_true,if_true,Bool.not_false]
  have harr:∀ Z:Array Value,cs.toArray++xs.toArray++Z=(cs++xs++Z.toList).toArray:=fun Z=>by apply Array.ext'; simp
  rw [harr]; rfl
 ·simp [Question.cut]
 ·obtain ⟨h1,_⟩:=z7r hzl
  simp [Builtin.zeroCells,h1]
theorem z93 {S T2:TypeId} {e:TypeId} (hS:P.underlying S=some (.slice e)) {d2:TypeDesc} (h2:P.underlying T2=some d2) (hd2:∀ k,d2≠ .int k) {z:Nat} (hz:z8q P e=some z)
  (ty:TypeId) {b o n cap:Nat} {a2:Option Addr} {m cap2:Nat} {xs:List Value} (hx:(Builtin.firstCells z m (.slice a2 m cap2)).run P w= .ok xs.toArray w)
  (hm:n+m≤cap) {c:Array Value} {t:TypeId} (hc:w.heap[b]?=some (.cells c t (0,0))) (hroom:o+n*z+xs.length≤c.size) (h1:∀ u∈xs,u.oneCell'=true):
  (Builtin.append_ #[S,T2] ty #[.slice (some ⟨b,o,none⟩) n cap, .slice a2 m cap2]).run P w=
   .ok (.slice (some ⟨b,o,none⟩) (n+m) cap) (World.setObj w b (.cells (c.toList.take (o+n*z)++xs++c.toList.drop (o+n*z+xs.length)).toArray t (0,0))):=by
 have hmatch:(match d2 with| .int _=>true|_=>false)=false:=by
  cases d2<;>first|rfl|exact absurd rfl (hd2 _)
 have hst:=run_storeCells_at (P:=P) b (o+n*z) t xs 0 c w hc (by simpa using hroom) h1
 rw [z6v hc] at hst
 simp only [Nat.add_zero] at hst
 unfold Builtin.append_
 simp only [List.getElem?_toArray,List.getElem?_cons_zero,List.getElem?_cons_succ,Sem.run_bind,z0h hS,Result.andThen_ok,z1m hz,z0h h2,Sem.run_pure,hmatch,Builtin.lenOf,Bool.false_eq_true,if_false,Sem.run_ite,hm,if_true,
  Bool.not_false,hx,z49,hst]
def x7e:Option Nat→List (Nat×AO)
 |some id=>[(id, .dead)]
 |none=>[]
theorem w8f (hr:z0c P ρ h w) {new:Nat} (hn:ρ new=none) (kill:Option Nat) {z:Nat} (hz:0<z) {o:AO} {es xs:List (List AV)} (ho:o.rows=some (es++xs)) {cs vs rest:List Value}
  (he:z2t ρ (z0i ρ h) w z es cs) (hx:z2t ρ (z0i ρ h) w z xs vs) (e:TypeId) (n nc d:Nat) (hln:n=(es++xs).length) (hle:n≤nc) (hrest:rest.length=(nc - n)*z) (hdr:z00 w.drawn d) {s:Sem Value}
  (hs:s.run P w= .ok (.slice (some ⟨w.heap.size,0,none⟩) n nc) { (World.push w (.cells (cs++vs++rest).toArray e)) with drawn:=d }) (c:Bool):
  z0r P ρ h w new s ⟨c, .slice new z 0 n none,x7e kill++[(new,o)]⟩:=by
 obtain ⟨h0,hu,hr0,hext⟩:∃ h0,z1q h (x7e kill++[(new,o)])=z1i h0 new o∧z0c P ρ h0 w∧Ext (fun id=>id≠new) ρ h w ρ h0 w:=by
  cases kill with
  |none=>exact ⟨h,rfl,hr,Ext.refl _ _ _ _⟩
  |some id=>exact ⟨z1i h id .dead,rfl,hr.kill id,Ext.kill _ _ _ _ _⟩
 have hk0:=hext.keep
 have hrel:=(he.append hx).keep hk0 (fun _ _ h=>h)
 have hkp:=z7p hr0 hn ⟨w.heap.size,0,z⟩ o (.cells (cs++vs++rest).toArray e) rfl
 have hrel2:=hrel.keep hkp (Rho.put_mono ρ new ⟨w.heap.size,0,z⟩ hn)
 have hobj:z17 P (ρ.put new ⟨w.heap.size,0,z⟩) (z0i (ρ.put new ⟨w.heap.size,0,z⟩) (z1i h0 new o)) (World.push w (.cells (cs++vs++rest).toArray e)) ⟨w.heap.size,0,z⟩ o:=by
  refine z17.of_rows ho hz _ e (z3o _ _) hrel2.2.1 (fun i r j y hi hy=>?_)
  obtain ⟨v,hv,h1,hvr⟩:=hrel2.2.2 i r j y hi hy
  refine ⟨v,?_,h1,hvr⟩
  simp only [List.getElem?_toArray,Nat.zero_add]
  rw [List.getElem?_append_left]
  ·exact hv
  ·exact (List.getElem?_eq_some_iff.1 hv).1
 have hnew:=hr0.new hn z o _ hobj
 have hnew2:=hnew.drawn d hdr
 refine ⟨_,_,ρ.put new ⟨w.heap.size,0,z⟩,hs,?_,by show z0c P _ (z1q h (x7e kill++[(new,o)])) _; rw [hu]; exact hnew2,?_, .inr ⟨o,by simp⟩⟩
 ·show z0t _ (z0i _ (z1q h (x7e kill++[(new,o)]))) _ _ _
  rw [hu]
  refine .slice new z 0 n none ⟨w.heap.size,0,z⟩ _ nc (Rho.put_same _ _ _) rfl (fun _=>by simp) (.inr ⟨rfl,(cs++vs++rest).length,?_,?_⟩) hle
  ·show z1v (World.push w _) _=_
   rw [z05 (z3o _ _)]; simp
  ·have h1:=(he.append hx).1
   rw [←hln] at h1
   simp only [List.length_append] at h1⊢
   rw [hrest,h1, ←Nat.add_mul]
   simp; exact Nat.mul_le_mul_right _ (by omega)
 ·show Ext _ _ _ _ _ (z1q h (x7e kill++[(new,o)])) _
  rw [hu]
  exact hext.trans ((Ext.new hr0 hn ⟨w.heap.size,0,z⟩ o _ rfl).trans (Ext.drawn _ _ _ _ d hdr))
end
end Go.Am
end
section
namespace Go.Am
theorem and_true {a b:Bool} (h:std.and a b=true):a=true∧b=true:=by simpa [std] using h
theorem z21 {i j:Int} (h:std.cmp .leq i j=true):i≤j:=by simpa [std,z6a] using h
theorem z9f (a b:Els):(Els.app std a b).rows=some (a.toA++b.toA):=by
 cases a<;>cases b<;>simp [Els.app,AO.rows,Els.toA,std,z30]
theorem x3h {o o':AO} {i:Nat} {x:Els} (h:x40 std o i x=some o'):∃ E,o.rows=some E∧o'.rows=some (z4d E i x.toA):=by
 cases o<;>cases x<;>simp [x40] at h<;>subst h
 ·exact ⟨_,rfl,by simp [AO.rows,std,z4d,Els.toA,z30]⟩
 ·exact ⟨_,rfl,rfl⟩
 ·exact ⟨_,rfl,rfl⟩
 ·exact ⟨_,rfl,rfl⟩
theorem y4s (l xs:List (List AV)) (i k:Nat) (h:i+xs.length≤l.length):(z4d l i xs)[k]?=if i≤k∧k<i+xs.length then xs[k - i]? else l[k]?:=by
 unfold z4d
 rw [List.append_assoc,List.getElem?_append]
 have ho:(l.take i).length=i:=by simp; omega
 rw [ho]
 split
 ·rename_i h1
  rw [if_neg (by omega),List.getElem?_take,if_pos h1]
 ·rename_i h1
  rw [List.getElem?_append]
  split
  ·rename_i h2; rw [if_pos (by omega)]
  ·rename_i h2; rw [if_neg (by omega),List.getElem?_drop]; congr 1; omega
section
variable {P:Program} {ρ:Rho} {h:List AO} {w:World}
theorem z9m {O:Nat→Prop} {z:Nat} (hz:0<z) {es:List (List AV)} {cs:List Value} (hr:z2t ρ O w z es cs):∀ u∈cs,u.oneCell'=true:=by
 intro u hu
 obtain ⟨k,hk,hku⟩:=List.getElem_of_mem hu
 obtain ⟨h1,h2,h3⟩:=hr
 have hk0:=hk
 rw [h1] at hk
 obtain ⟨g1,g2,g3⟩:=x1i hz hk
 have hi:es[k / z]?=some es[k / z]:=List.getElem?_eq_getElem g1
 have hlt:k % z<(es[k / z]).length:=by rw [h2 _ _ hi]; exact g2
 obtain ⟨v,hv,hv1,hrel⟩:=h3 _ _ _ _ hi (List.getElem?_eq_getElem hlt)
 rw [←g3,List.getElem?_eq_getElem hk0] at hv
 cases hv
 rw [←hku]; exact hv1
theorem y0g {O:Nat→Prop} {z:Nat} (hz:0<z) {base:Nat} {c:Array Value} {E X:List (List AV)} {vs:List Value} {i:Nat}
  (hl:∀ (i:Nat) (r:List AV),E[i]?=some r→r.length=z)
  (hj:∀ (i:Nat) (r:List AV) (j:Nat) (y:AV),E[i]?=some r→r[j]?=some y→∃ v,c[base+i*z+j]?=some v∧v.oneCell'=true∧z0t ρ O w y v)
  (hx:z2t ρ O w z X vs) (hle:i+X.length≤E.length) (hroom:base+i*z+vs.length≤c.size):
  (∀ (k:Nat) (r:List AV),(z4d E i X)[k]?=some r→r.length=z)∧
  ∀ (k:Nat) (r:List AV) (j:Nat) (y:AV),(z4d E i X)[k]?=some r→r[j]?=some y→
   ∃ v,((c.toList.take (base+i*z)++vs++c.toList.drop (base+i*z+vs.length)).toArray)[base+k*z+j]?=some v∧v.oneCell'=true∧z0t ρ O w y v:=by
 have hlen:∀ (k:Nat) (r:List AV),(z4d E i X)[k]?=some r→r.length=z:=by
  intro k r hk
  rw [y4s _ _ _ _ hle] at hk
  split at hk
  ·exact hx.2.1 _ r hk
  ·exact hl k r hk
 refine ⟨hlen,fun k r j y hk hy=>?_⟩
 have hjz:j<z:=by rw [←hlen k r hk]; exact (List.getElem?_eq_some_iff.1 hy).1
 rw [y4s _ _ _ _ hle] at hk
 have hsp:=z4s c.toList vs (base+i*z) (base+k*z+j) (by simpa using hroom)
 rw [List.getElem?_toArray,hsp]
 have hvl:=hx.1
 split at hk
 ·rename_i hin
  obtain ⟨v,hv,h1,hrel⟩:=hx.2.2 _ r j y hk hy
  refine ⟨v,?_,h1,hrel⟩
  have e:k*z=i*z+(k - i)*z:=by rw [←Nat.add_mul]; congr 1; omega
  have hlt:(k - i)*z+j<vs.length:=(List.getElem?_eq_some_iff.1 hv).1
  rw [if_pos (by omega),show base+k*z+j - (base+i*z)=(k - i)*z+j by omega]
  exact hv
 ·rename_i hout
  obtain ⟨v,hv,h1,hrel⟩:=hj k r j y hk hy
  refine ⟨v,?_,h1,hrel⟩
  rw [if_neg]
  ·simpa using hv
  ·rintro ⟨g1,g2⟩
   rw [hvl] at g2
   rcases Nat.lt_or_ge k i with hlt|hge
   ·have:(k+1)*z≤i*z:=Nat.mul_le_mul_right _ hlt
    rw [Nat.add_mul] at this; omega
   ·have:(i+X.length)*z≤k*z:=Nat.mul_le_mul_right _ (by omega)
    rw [Nat.add_mul] at this; omega
theorem z0c.move (hr : z0c P ρ h w) {id new : Nat} {L : Loc} (hL : ρ id = some L) (hl : (z0j h id).live = true) (hn : ρ new = none) (base esz : Nat) (o : AO) (ho : o.live = true) (x : Obj)
    (hs : ∀ n, z1v w L.blk = some n → z1v (World.setObj w L.blk x) L.blk = some n)
    (hx : ∀ (k : z5n (z0i ρ h) (z0i (ρ.put new ⟨L.blk, base, esz⟩) (z1i (z1i h id .dead) new o)) w (World.setObj w L.blk x)), z17 P (ρ.put new ⟨L.blk, base, esz⟩) (z0i (ρ.put new ⟨L.blk, base, esz⟩) (z1i (z1i h id .dead) new o)) (World.setObj w L.blk x) ⟨L.blk, base, esz⟩ o) :
    z0c P (ρ.put new ⟨L.blk, base, esz⟩) (z1i (z1i h id .dead) new o) (World.setObj w L.blk x) ∧
      Ext (fun j => j ≠ new) ρ h w (ρ.put new ⟨L.blk, base, esz⟩) (z1i (z1i h id .dead) new o) (World.setObj w L.blk x) := by
  have hne : id ≠ new := by rintro rfl; rw [hn] at hL; cases hL
  have nth : ∀ j, j ≠ new → j ≠ id → z0j (z1i (z1i h id .dead) new o) j = z0j h j := fun j h1 h2 => by
    rw [z0g _ _ _ _ (Ne.symm h1), z0g _ _ _ _ (Ne.symm h2)]
  have nthid : z0j (z1i (z1i h id .dead) new o) id = .dead := by rw [z0g _ _ _ _ (Ne.symm hne), z0m]
  have own : ∀ b, z0i (ρ.put new ⟨L.blk, base, esz⟩) (z1i (z1i h id .dead) new o) b → z0i ρ h b := by
    rintro b (hf | ⟨j, M, hM, hj, rfl⟩)
    · exact .inl hf
    by_cases e : j = new
    · subst e; rw [Rho.put_same] at hM; cases hM; exact .inr ⟨id, L, hL, hl, rfl⟩
    · rw [Rho.put_ne _ _ _ _ e] at hM
      by_cases e2 : j = id
      · subst e2; rw [nthid] at hj; cases hj
      · rw [nth j e e2] at hj; exact .inr ⟨j, M, hM, hj, rfl⟩
  have k : z5n (z0i ρ h) (z0i (ρ.put new ⟨L.blk, base, esz⟩) (z1i (z1i h id .dead) new o)) w (World.setObj w L.blk x) :=
    { size := by rw [z13]; omega
      drawn := z00.refl _
      frame := fun b hb hnb => z14 _ _ _ _ (fun e => hnb (e ▸ .inr ⟨id, L, hL, hl, rfl⟩))
      own := fun b _ hb => own b hb
      shape := fun b n hb => by
        by_cases he : b = L.blk
        · subst he; exact hs n hb
        · unfold z1v; rw [z14 _ _ _ _ he]; exact hb }
  refine ⟨⟨fun j M hM => ?_, fun i j M N h1 h2 l1 l2 hb => ?_, fun b hf => by rw [z13]; exact hr.fr b hf, fun j M hM hj hf => ?_⟩, rfl, rfl, rfl, k, fun j hj => Rho.put_ne _ _ _ _ hj, rfl,
    fun b hf => z14 _ _ _ _ (fun e => hr.sep id L hL hl (e ▸ hf))⟩
  · by_cases e : j = new
    · subst e; rw [Rho.put_same] at hM; cases hM
      rw [z0m]
      exact ⟨by rw [z13]; exact (hr.obj id L hL).1, hx k⟩
    · rw [Rho.put_ne _ _ _ _ e] at hM
      obtain ⟨g1, g2⟩ := hr.obj j M hM
      refine ⟨by rw [z13]; exact g1, ?_⟩
      by_cases e2 : j = id
      · subst e2; rw [nthid]; trivial
      · rw [nth j e e2]
        by_cases hlj : (z0j h j).live = true
        · exact g2.keep k (Rho.put_mono _ _ _ hn) (z14 _ _ _ _ (fun eb => e2 (hr.inj j id M L hM hL hlj hl eb)))
        · cases hjo : z0j h j <;> simp_all [AO.live, z17]
  · by_cases e1 : i = new
    · subst e1
      by_cases e2 : j = i
      · exact e2.symm
      · rw [Rho.put_same] at h1; cases h1
        rw [Rho.put_ne _ _ _ _ e2] at h2
        by_cases e3 : j = id
        · subst e3; rw [nthid] at l2; cases l2
        · rw [nth j e2 e3] at l2
          exact absurd (hr.inj id j L N hL h2 hl l2 hb).symm e3
    · rw [Rho.put_ne _ _ _ _ e1] at h1
      by_cases e3 : i = id
      · subst e3; rw [nthid] at l1; cases l1
      · rw [nth i e1 e3] at l1
        by_cases e2 : j = new
        · subst e2; rw [Rho.put_same] at h2; cases h2
          exact absurd (hr.inj i id M L h1 hL l1 hl hb) e3
        · rw [Rho.put_ne _ _ _ _ e2] at h2
          by_cases e4 : j = id
          · subst e4; rw [nthid] at l2; cases l2
          · rw [nth j e2 e4] at l2
            exact hr.inj i j M N h1 h2 l1 l2 hb
  · by_cases e : j = new
    · subst e; rw [Rho.put_same] at hM; cases hM
      exact hr.sep id L hL hl hf
    · rw [Rho.put_ne _ _ _ _ e] at hM
      by_cases e2 : j = id
      · subst e2; rw [nthid] at hj; cases hj
      · rw [nth j e e2] at hj; exact hr.sep j M hM hj hf
theorem w82 (hr:z0c P ρ h w) {new:Nat} {z:Nat} (hz:0<z) {es:List (List D)} {cs rest:List Value} (he:z2t ρ (z0i ρ h) w z (z58 es) cs) (hne:es≠[]) (e:TypeId) (nc d:Nat) (hle:es.length≤nc) (hdr:z00 w.drawn d) {s:Sem Value}
  (hs:s.run P w= .ok (.slice (some ⟨w.heap.size,0,none⟩) es.length nc) { (World.push w (.cells (cs++rest).toArray e)) with drawn:=d }) (c:Bool):z0r P ρ h w new s ⟨c, .d (.list false z es),[]⟩:=by
 have hr2:=(hr.push0 (.cells (cs++rest).toArray e)).drawn d hdr
 have hx2:Ext (fun id=>id≠new) ρ h w ρ h { (World.push w (.cells (cs++rest).toArray e)) with drawn:=d }:=(Ext.push0 _ hr _).trans (Ext.drawn _ _ _ _ d hdr)
 refine ⟨_,_,ρ,hs,?_,hr2,hx2, .inl rfl⟩
 have hlen:cs.length=es.length*z:=by rw [he.1,z03]
 refine .d (.list false es w.heap.size 0 z nc hz hne (fun hb=>Nat.lt_irrefl _ (z95 hr hb)) hle (by simp) (fun i r hi=>?_) (fun k=>(cs[k]?).getD undef) (fun k hk=>?_) (fun k hk=>?_) (fun i r j y hi hy=>?_))
 ·have:=he.2.1 i (toA r) (by rw [z3b,hi]; rfl)
  rw [z08] at this; exact this
 ·have hk':k<cs.length:=by rw [hlen]; exact hk
  rw [List.getElem?_eq_getElem hk']
  exact z9m hz he _ (List.getElem_mem _)
 ·have hk':k<cs.length:=by rw [hlen]; exact hk
  rw [List.getElem?_eq_getElem hk']
  refine z5l (c:=(cs++rest).toArray) (z3o _ _) ?_
  rw [List.getElem?_toArray,Nat.zero_add,List.getElem?_append_left hk',List.getElem?_eq_getElem hk']
  rfl
 ·obtain ⟨v,hv,_,hrel⟩:=he.2.2 i (toA r) j (.d y) (by rw [z3b,hi]; rfl) (by rw [z1y,hy]; rfl)
  simp only [hv,Option.getD_some]
  cases hrel with
  |d hrel=>exact hrel.keep hx2.keep
theorem w4n (hr:z0c P ρ h w) {new:Nat} {z:Nat} (hz:0<z) {es:List (List D)} {cs:List Value} (he:z2t ρ (z0i ρ h) w z (z58 es) cs) (hne:es≠[]) (e:TypeId) {s:Sem Value} {rv:Array Value} (hrv:cs=rv.toList)
  (hs:s.run P w= .ok (.slice (some ⟨w.heap.size,0,none⟩) es.length es.length) (World.push w (.cells rv e))):z0r P ρ h w new s ⟨true, .d (.list true z es),[]⟩:=by
 have hr2:=hr.push0 (.cells rv e)
 have hx2:Ext (fun id=>id≠new) ρ h w ρ h (World.push w (.cells rv e)):=Ext.push0 _ hr _
 refine ⟨_,_,ρ,hs,?_,hr2,hx2, .inl rfl⟩
 have hlen:cs.length=es.length*z:=by rw [he.1,z03]
 refine .d (.list true es w.heap.size 0 z es.length hz hne (fun hb=>Nat.lt_irrefl _ (z95 hr hb)) (Nat.le_refl _) (fun _=>rfl) (fun i r hi=>?_) (fun k=>(cs[k]?).getD undef) (fun k hk=>?_) (fun k hk=>?_) (fun i r j y hi hy=>?_))
 ·have:=he.2.1 i (toA r) (by rw [z3b,hi]; rfl)
  rw [z08] at this; exact this
 ·have hk':k<cs.length:=by rw [hlen]; exact hk
  rw [List.getElem?_eq_getElem hk']
  exact z9m hz he _ (List.getElem_mem _)
 ·have hk':k<cs.length:=by rw [hlen]; exact hk
  rw [List.getElem?_eq_getElem hk']
  refine z5l (c:=rv) (z3o _ _) ?_
  rw [Nat.zero_add]
  have:rv[k]?=cs[k]?:=by rw [hrv]; simp
  rw [this,List.getElem?_eq_getElem hk']
  rfl
 ·obtain ⟨v,hv,_,hrel⟩:=he.2.2 i (toA r) j (.d y) (by rw [z3b,hi]; rfl) (by rw [z1y,hy]; rfl)
  simp only [hv,Option.getD_some]
  cases hrel with
  |d hrel=>exact hrel.keep hx2.keep
theorem x2w (a b:List (List D)):z58 (a++b)=z58 a++z58 b:=by rw [z30,z30,z30,List.map_append]
theorem y0p {z:Nat} {id z' off len:Nat} {cap:Option Nat} {c:Bool} {els:Els} (h1:z37 std z h (.slice id z' off len cap)=some (c,els)) (hc:c=true):
  z=z'∧∃ E,(z0j h id).rows=some E∧off+len≤E.length∧els.toA=(E.drop off).take len:=by
 simp only [z37] at h1
 cases hb:Nat.beq z z' with
 |false=>rw [hb] at h1; cases h1
 |true=>
 rw [hb] at h1; simp only [cond_true] at h1
 refine ⟨Nat.eq_of_beq_eq_true hb,?_⟩
 split at h1
 ·rename_i es ho; cases h1
  exact ⟨_,by rw [ho]; rfl,by rw [z03]; exact z2v hc,by simp [Els.toA,std,z30]⟩
 ·rename_i es ho; cases h1
  exact ⟨_,by rw [ho]; rfl,z2v hc,rfl⟩
 ·cases h1
theorem z7g {o:AO} {E:List (List AV)} (h:o.rows=some E):o.live=true:=by cases o<;>simp [AO.rows] at h<;>rfl
theorem y00 {S T2:TypeId} {ti ti2:TI} (ht:z8m P S ti) (ht2:z8m P T2 ti2) (hd2':∃ e z b a zs,ti2.desc= .slc e z b a zs) (hr:z0c P ρ h w) {new:Nat} (hn:ρ new=none) {q:Bool} {s x:AV} {vs vx:Value}
  (hs:z0t ρ (z0i ρ h) w s vs) (hx:z0t ρ (z0i ρ h) w x vx) {ty:TypeId} {res:Res} (hq:∀ b,z4n std s x=some b→b=q) {r:List D} (he:z2g std ti h new q r s x=some res) (hc:res.c=true):
  z0r P ρ h w new (Builtin.append_ #[S,T2] ty #[vs,vx]) res:=by
 obtain ⟨d,hd,hda,hk⟩:=ht.desc
 obtain ⟨d2,hdd2,_,hk2⟩:=ht2.desc
 obtain ⟨e2,z2,b2,a2,zs2,hdesc2⟩:=hd2'
 rw [hdesc2] at hk2
 obtain ⟨rfl,_⟩:=hk2
 have hint:∀ k,TypeDesc.slice e2≠ .int k:=by intro k; simp
 unfold z2g at he
 split at he
 rotate_left
 ·cases he
 rename_i e z eb ea ez hdesc
 rw [hdesc] at hk
 obtain ⟨rfl,hz,heb,_,hez,hezl⟩:=hk
 cases hb:(Nat.ble 1 z&&Nat.ble eb 60000) with
 |false=>rw [hb] at he; cases he
 |true=>
 rw [hb] at he; simp only [cond_true] at he
 simp only [Bool.and_eq_true] at hb
 have hzp:0<z:=Nat.le_of_ble_eq_true hb.1
 have hebb:eb≤60000:=Nat.le_of_ble_eq_true hb.2
 split at he
 rotate_left
 ·cases he
 rename_i cx xs cs es hxs hes
 have grow:∀ (kill:Option Nat) (c:Bool) (n:Nat),cx=true→cs=true→1≤z7u std x→n=z7u std s→n+z7u std x≤z5p→
   (∀ (a:Option Addr) (cap:Nat),vs= .slice a n cap→cap<n+z7u std x)→z0r P ρ h w new (Builtin.append_ #[S,T2] ty #[vs,vx]) ⟨c, .slice new z 0 (n+z7u std x) none,x7e kill++[(new,Els.app std es xs)]⟩:=by
  intro kill c n h1 h2 h3 h4 h5 h6
  obtain ⟨a,m,capx,cxs,rfl,hm,hmc,hxl,hxr,hxf⟩:=y1k (P:=P) hr hzp hx hxs h1
  obtain ⟨b,k,capb,ces,rfl,hk,hkc,hel,her,hef⟩:=y1k (P:=P) hr hzp hs hes h2
  rw [←hm] at h3 h5 h6⊢
  have hnk:n=k:=h4.trans hk.symm
  subst hnk
  obtain ⟨rest,nc,dd,hrun,hnc,hrl,hdr⟩:=z8r (P:=P) (w:=w) hd hdd2 hint hz heb hez ty hef hxf (h6 b capb rfl) hkc h5 hebb
  exact w8f hr hn kill hzp (z9f es xs) her hxr e (n+m) nc dd (by rw [List.length_append,hel,hxl]) hnc (by rw [hrl,hezl]) hdr hrun c
 split at he
 ·
  rename_i full z0 es0
  split at he
  ·cases hdt:w6n r z0 with
   |true=>
    rw [hdt] at he
    simp only [cond_true] at he
    split at he
    ·rename_i e1 y1
     cases he
     simp only at hc
     obtain ⟨h1,hc⟩:=and_true hc
     obtain ⟨h2,h3⟩:=and_true hc
     have hfull:=hq full rfl
     subst hfull
     have hcs:cs=true:=by
      simp only [z37] at hes
      cases hb:Nat.beq z z0 with
      |true=>rw [hb] at hes; cases hes; rfl
      |false=>rw [hb] at hes; simp only [cond_false] at hes; split at hes<;>cases hes; rfl
     obtain ⟨a,m,capx,cxs,rfl,hm,hmc,hxl,hxr,hxf⟩:=y1k (P:=P) hr hzp hx hxs h1
     obtain ⟨b,k,capb,ces,rfl,hk,hkc,hel,her,hef⟩:=y1k (P:=P) hr hzp hs hes hcs
     rw [←hm, ←hk] at h3
     rw [←hm] at h2
     have hm1:=z2v h2
     have hlt:capb<k+m:=by
      cases hs with
      |d hs=>
       generalize hkk:k=kk at hs
       cases hs with
       |lnil _ _ _ _ hcap=>have:=hcap rfl; omega
       |list _ _ _ _ _ _ _ _ _ _ hf=>have:=hf rfl; omega
     obtain ⟨rest,nc,dd,hrun,hnc,hrl,hdr⟩:=z8r (P:=P) (w:=w) hd hdd2 hint hz heb hez ty hef hxf hlt hkc (z2v h3) hebb
     have hl1:e1.length=k:=by have:=hel; simp only [Els.toA,z03] at this; omega
     have hl2:y1.length=m:=by have:=hxl; simp only [Els.toA,z03] at this; omega
     have hll:(e1++y1).length=k+m:=by rw [List.length_append,hl1,hl2]
     refine w82 hr hzp (es:=e1++y1) (cs:=ces++cxs) (rest:=rest) (by rw [x2w]; exact her.append hxr) (by intro e0; rw [e0] at hll; simp at hll; omega) e nc dd (by rw [hll]; exact hnc) hdr (by rw [hll]; exact hrun) _
    ·cases he
   |false=>
   rw [hdt] at he
   simp only [cond_false] at he
   cases he
   simp only at hc
   obtain ⟨h1,hc⟩:=and_true hc
   obtain ⟨h2,h3⟩:=and_true hc
   have hfull:=hq full rfl
   subst hfull
   have hcs:cs=true:=by
    simp only [z37] at hes
    cases hb:Nat.beq z z0 with
    |true=>rw [hb] at hes; cases hes; rfl
    |false=>rw [hb] at hes; simp only [cond_false] at hes; split at hes<;>cases hes; rfl
   refine grow none _ _ h1 hcs (z2v h2) rfl (z2v h3) ?_
   intro a cap hv
   have:=z2v h2
   cases hs with
   |d hs=>
    subst hv
    generalize hnn:z7u std (AV.d (D.list true z0 es0))=nn at hs
    cases hs with
    |lnil _ _ _ _ hcap=>have:=hcap rfl; omega
    |list _ _ _ _ _ _ _ _ _ _ hf=>have:=hf rfl; omega
  ·cases he
 ·
  rename_i id z' off len
  cases he
  simp only at hc
  obtain ⟨h1,hc⟩:=and_true hc
  obtain ⟨h2,hc⟩:=and_true hc
  obtain ⟨h3,h4⟩:=and_true hc
  have hs0:=hs
  cases hs with
  |nils _ _ _ _ a hcc=>
   refine grow (some id) _ 0 h1 h2 (z2v h3) rfl (z2v h4) ?_
   intro a' cap' hv
   cases hv
   have:=z2v h3
   omega
  |slice _ _ _ _ _ L a cap hL hLz haa hcc hle=>
  by_cases hfit:len+z7u std x≤cap
  ·
   obtain ⟨rfl,E,hE,hoff,hels⟩:=y0p hes h2
   obtain ⟨a2',m,capx,cxs,rfl,hm,hmc,hxl,hxr,hxf⟩:=y1k (P:=P) hr hzp hx hxs h1
   rw [←hm] at h3 h4 hfit⊢
   have hm1:1≤m:=z2v h3
   rw [haa (by omega),hLz]
   rcases hcc with hcc|⟨_,nb,hnb,hroom⟩
   ·cases hcc
   obtain ⟨_,hob⟩:=hr.obj id L hL
   obtain ⟨_,c,t,hcb,hl,hj⟩:=hob.rows hE
   rw [hLz] at hl hj hroom
   rw [z05 hcb] at hnb
   cases hnb
   have hcx:cxs.length=m*z:=by rw [hxr.1,hxl]
   have hmul:(off+cap)*z=off*z+cap*z:=Nat.add_mul _ _ _
   have hmul2:(len+m)*z≤cap*z:=Nat.mul_le_mul_right _ hfit
   have hmul3:(len+m)*z=len*z+m*z:=Nat.add_mul _ _ _
   have hrun:=z93 (P:=P) (w:=w) hd hdd2 hint hz ty (hxf w rfl) hfit hcb (o:=L.base+off*z) (by omega) (z9m hzp hxr)
   have hlive:=z7g hE
   have hbs:∀ k,z1v w L.blk=some k→z1v (World.setObj w L.blk (.cells (c.toList.take (L.base+off*z+len*z)++cxs++c.toList.drop (L.base+off*z+len*z+cxs.length)).toArray t (0,0))) L.blk=some k:=by
    intro k hk
    rw [z05 hcb] at hk; cases hk
    rw [z05 (z0z _ _ _ (Array.getElem?_eq_some_iff.1 hcb).1)]
    congr 1
    simp; omega
   obtain ⟨g1,g2⟩:=hr.move hL hlive hn (L.base+off*z) z (Els.app std es xs) (z7g (z9f es xs)) _ hbs (fun kp=>by
    have hEd:∀ (i:Nat) (r:List AV),(E.drop off).take len=es.toA:=fun _ _=>hels.symm
    refine z17.of_rows (z9f es xs) hzp _ t (z0z _ _ _ (Array.getElem?_eq_some_iff.1 hcb).1) (fun i r hi=>?_) (fun i r j y hi hy=>?_)
    ·rw [List.getElem?_append] at hi
     split at hi
     ·rw [hels,z1h] at hi
      split at hi
      ·exact hl _ r hi
      ·cases hi
     ·exact hxr.2.1 _ r hi
    ·have helen:es.toA.length=len:=by rw [hels]; simp; omega
     have hrl:r.length=z:=by
      rw [List.getElem?_append] at hi
      split at hi
      ·rw [hels,z1h] at hi
       split at hi
       ·exact hl _ r hi
       ·cases hi
      ·exact hxr.2.1 _ r hi
     have hjz:j<z:=by rw [←hrl]; exact (List.getElem?_eq_some_iff.1 hy).1
     have hsp:=z4s c.toList cxs (L.base+off*z+len*z) (L.base+off*z+i*z+j) (by simp; omega)
     simp only at hsp⊢
     rw [List.getElem?_toArray,hsp]
     rw [List.getElem?_append] at hi
     split at hi
     ·rename_i hlt
      rw [helen] at hlt
      rw [hels,z1h,if_pos hlt] at hi
      obtain ⟨v,hv,hv1,hvr⟩:=hj _ r j y hi hy
      have:(i+1)*z≤len*z:=Nat.mul_le_mul_right _ hlt
      rw [Nat.add_mul] at this
      rw [if_neg (by omega)]
      refine ⟨v,?_,hv1,hvr.keep kp (Rho.put_mono _ _ _ hn)⟩
      rw [Nat.add_mul] at hv
      rw [show L.base+off*z+i*z+j=L.base+(off*z+i*z)+j by omega]
      simpa using hv
     ·rename_i hge
      rw [helen] at hge hi
      obtain ⟨v,hv,hv1,hvr⟩:=hxr.2.2 _ r j y hi hy
      have hlt:=(List.getElem?_eq_some_iff.1 hv).1
      have e:i*z=len*z+(i - len)*z:=by rw [←Nat.add_mul]; congr 1; omega
      rw [if_pos (by omega)]
      refine ⟨v,?_,hv1,hvr.keep kp (Rho.put_mono _ _ _ hn)⟩
      rw [show L.base+off*z+i*z+j - (L.base+off*z+len*z)=(i - len)*z+j by omega]
      exact hv)
   refine ⟨_,_,_,hrun,?_,g1,g2, .inr ⟨_,by simp; exact .inr rfl⟩⟩
   refine .slice new z 0 (len+m) none ⟨L.blk,L.base+off*z,z⟩ _ cap (Rho.put_same _ _ _) rfl (fun _=>by simp) (.inr ⟨rfl,c.size,?_,?_⟩) hfit
   ·exact hbs _ (z05 hcb)
   ·simp; omega
  ·refine grow (some id) _ len h1 h2 (z2v h3) rfl (z2v h4) ?_
   intro a' cap' hv
   cases hv
   omega
 ·
  rename_i id z' off len c
  split at he
  ·
   split at he
   ·rename_i o ho
    cases he
    simp only at hc
    obtain ⟨h1,hc⟩:=and_true hc
    obtain ⟨h2,hc⟩:=and_true hc
    obtain ⟨hge1,h3⟩:=and_true hc
    have hge1:=z2v hge1
    have hw:len+z7u std x≤c:=z2v (hq _ rfl)
    cases hs with
    |nils _ _ _ _ a hcc=>
     rcases hcc with hcc|hcc<;>cases hcc
     omega
    |slice _ _ _ _ _ L a cap hL hLz haa hcc hle=>
    rcases hcc with hcc|⟨hcc,_⟩
    rotate_left
    ·cases hcc
    cases hcc
    obtain ⟨rfl,E,hE,hoff,hels⟩:=y0p hes h2
    obtain ⟨E',hE',hrow'⟩:=x3h ho
    rw [hE] at hE'; cases hE'
    have hlo:v2x std (z0j h id)=E.length:=by
     cases hno:z0j h id<;>rw [hno] at hE<;>simp [AO.rows] at hE<;>subst hE<;>simp [v2x,std,z03]
    have h3':off+c≤E.length:=by rw [←hlo]; exact z2v h3
    obtain ⟨a2',m,capx,cxs,rfl,hm,hmc,hxl,hxr,hxf⟩:=y1k (P:=P) hr hzp hx hxs h1
    rw [←hm] at hw hge1⊢
    obtain ⟨_,hob⟩:=hr.obj id L hL
    obtain ⟨_,cc,t,hcb,hl,hj⟩:=hob.rows hE
    rw [hLz] at hl hj
    have hcx:cxs.length=m*z:=by rw [hxr.1,hxl]
    have hmul:(off+len)*z=off*z+len*z:=Nat.add_mul _ _ _
    by_cases hc0:0<c
    ·have hElast:L.base+E.length*z≤cc.size:=by
      have hlt:E.length - 1<E.length:=by omega
      have hrl:=hl _ _ (List.getElem?_eq_getElem hlt)
      have hy:z - 1<(E[E.length - 1]).length:=by omega
      obtain ⟨v,hv,_,_⟩:=hj _ _ _ _ (List.getElem?_eq_getElem hlt) (List.getElem?_eq_getElem hy)
      have:=(Array.getElem?_eq_some_iff.1 hv).1
      have e:E.length*z=(E.length - 1)*z+z:=by
       rw [←Nat.succ_mul]; congr 1; omega
      omega
     have hmul2:(off+len+m)*z≤E.length*z:=Nat.mul_le_mul_right _ (by omega)
     have hmul3:(off+len+m)*z=(off+len)*z+m*z:=Nat.add_mul _ _ _
     rw [haa hc0,hLz]
     have hrun:=z93 (P:=P) (w:=w) hd hdd2 hint hz ty (hxf w rfl) hw hcb (o:=L.base+off*z) (by omega) (z9m hzp hxr)
     rw [show L.base+off*z+len*z=L.base+(off+len)*z by omega] at hrun
     have hlive:=z7g hE
     have hbs:∀ k,z1v w L.blk=some k→z1v (World.setObj w L.blk (.cells (cc.toList.take (L.base+(off+len)*z)++cxs++cc.toList.drop (L.base+(off+len)*z+cxs.length)).toArray t (0,0))) L.blk=some k:=by
      intro k hk
      rw [z05 hcb] at hk; cases hk
      rw [z05 (z0z _ _ _ (Array.getElem?_eq_some_iff.1 hcb).1)]
      congr 1
      simp; omega
     have hkp:=z2a hr hL hlive o (z7g hrow') _ hbs
     obtain ⟨r1,r2⟩:=y0g (w:=w) hzp (base:=L.base) (c:=cc) (i:=off+len) hl hj hxr (by rw [hxl]; omega) (by omega)
     refine ⟨_,_,ρ,hrun,?_,hr.set hL hlive o (z7g hrow') _ hbs ?_,Ext.set _ hr hL hlive o (z7g hrow') _ hbs, .inl rfl⟩
     ·exact .slice id z off (len+m) (some c) L _ c hL hLz (fun _=>by rw [hLz]) (.inl rfl) hw
     ·refine z17.of_rows hrow' (by omega) _ t (z0z _ _ _ (Array.getElem?_eq_some_iff.1 hcb).1) (by rw [hLz]; exact r1) (fun i r j y hi hy=>?_)
      rw [hLz]
      obtain ⟨v,hv,hv1,hvr⟩:=r2 i r j y hi hy
      exact ⟨v,hv,hv1,hvr.keep hkp (fun _ _ h=>h)⟩
    ·omega
   ·cases he
  ·cases he
   simp only at hc
   obtain ⟨h1,hc⟩:=and_true hc
   obtain ⟨h2,hc⟩:=and_true hc
   obtain ⟨h3,h4⟩:=and_true hc
   have hw:=hq _ rfl
   refine grow none _ len h1 h2 (z2v h3) rfl (z2v h4) ?_
   intro a cap hv
   cases hs with
   |nils _ _ _ _ a hcc=>
    cases hv
    have:=z2v h3
    omega
   |slice _ _ _ _ _ L _ _ hL hLz haa hcc hle=>
    cases hv
    rcases hcc with hcc|⟨hcc,_⟩
    ·cases hcc
     have:¬ (len+z7u std x≤c):=fun hle=>by
      have:std.leN (std.add len (z7u std x)) c=true:=Nat.ble_eq_true_of_le hle
      rw [this] at hw; cases hw
     omega
    ·cases hcc
 ·cases he
end
end Go.Am
end
section
namespace Go.Am
theorem x8s (n:Int) (h0:0≤n) (h1:n≤1000000):IntKind.i64.wrap n=n:=by
 have h:n % (2 ^ 64:Int)=n:=Int.emod_eq_of_lt h0 (by omega)
 simp [IntKind.wrap,IntKind.bits,IntKind.signed,h]
 omega
theorem x1u {place:Nat→Option (Nat×Nat)}:∀ {parts:List (Nat×AV)} {cells r:List AV},y6k place cells parts=some r→r.length=cells.length
 |[],cells,r,h=>by simp [y6k] at h; rw [h]
 |(i,v)::rest,cells,r,h=>by
  simp only [y6k] at h
  split at h
  ·rename_i off size cs _ _
   cases hb:z7n cs size with
   |false=>rw [hb] at h; cases h
   |true=>
   rw [hb] at h; simp only [cond_true] at h
   split at h
   ·rename_i l hl
    rw [x1u h,(z8u hl).1]
   ·cases h
  ·cases h
section
variable {P:Program} {ρ:Rho} {h:List AO} {w:World}
theorem y3f {T:TypeId} {ti:TI} (ht:z8m P T ti) (hr:z0c P ρ h w) {new:Nat} (hn:ρ new=none) {l c:AV} {vl vc:Value} (hl:z0t ρ (z0i ρ h) w l vl) (hcv:z0t ρ (z0i ρ h) w c vc)
  {res:Res} (hs:z5u std ti new l c=some res) (hc:res.c=true):z0r P ρ h w new (Instr.makeSlice T vl vc) res:=by
 obtain ⟨d,hd,hda,hk⟩:=ht.desc
 unfold z5u at hs
 split at hs
 rotate_left
 ·cases hs
 rename_i e z eb ea ez k1 ln k2 cp hdesc
 rw [hdesc] at hk
 obtain ⟨rfl,hz,heb,_,hez,hezl⟩:=hk
 cases hb:(Nat.ble 1 z&&(Nat.ble eb 60000&&z6u (toA ez))) with
 |false=>rw [hb] at hs; cases hs
 |true=>
 rw [hb] at hs; cases hs
 simp only [Bool.and_eq_true] at hb
 obtain ⟨hb1,hb2,hb3⟩:=hb
 have hzp:0<z:=Nat.le_of_ble_eq_true hb1
 have hebb:eb≤60000:=Nat.le_of_ble_eq_true hb2
 simp only at hc
 obtain ⟨c1,hc⟩:=and_true hc
 obtain ⟨c2,c3⟩:=and_true hc
 have c1:=z3a c1
 have c2:=z21 c2
 have c3:=z21 c3
 cases hl with|d hl=>
 cases hl
 cases hcv with|d hcv=>
 cases hcv
 obtain ⟨i,zv,hi,hib,hzv,hzl⟩:∃ i zv,P.info? e=some i∧i.bytes=eb∧i.zero=some zv∧y1l zv.cells.toList=some ez:=by
  unfold y0t at heb; unfold y36 at hez
  cases hi:P.info? e with
  |none=>simp [hi] at heb
  |some i=>
   rw [hi] at heb hez
   simp at heb hez
   cases hzq:i.zero with
   |none=>simp [hzq] at hez
   |some zv=>exact ⟨i,zv,rfl,heb,hzq,by simpa [hzq] using hez⟩
 obtain ⟨hzs,hzr⟩:=z7r hzl
 have hzsize:zv.cells.size=z:=by rw [←hezl,hzs]; simp
 have hprod:(eb:Int)*cp≤60000*1000000:=Int.mul_le_mul (by omega) c3 (by omega) (by omega)
 have hw1:=x8s ln c1 (by omega)
 have hw2:=x8s cp (by omega) c3
 have hcell:∀ k,k<cp.toNat*z→(Array.map (fun x=>zv.cells[x % zv.cells.size]!) (Array.range (cp.toNat*z)))[k]?=zv.cells[k % z]?:=by
  intro k hk
  have:k % z<zv.cells.size:=by rw [hzsize]; exact Nat.mod_lt _ hzp
  simp [hk,hzsize,getElem!_pos zv.cells (k % z) this]
 refine y2h hr hn (T:=e) ((Array.range (cp.toNat*z)).map (zv.cells[· % zv.cells.size]!)) (.slice new z 0 ln.toNat (some cp.toNat)) (.row (std.rep cp.toNat ez)) 0 z (.slice (some ⟨w.heap.size,0,none⟩) ln.toNat cp.toNat) ?_ ?_ ?_
 ·have hlarge:¬ ((eb:Int)*cp>2 ^ 48):=by omega
  have hcond:((cp<0||decide ((eb:Int)*cp>2 ^ 48))||decide (ln<0)||decide (ln>cp))=false:=by
   simp; omega
  unfold Instr.makeSlice
  simp only [Sem.run_bind,z0h hd,Result.andThen_ok,asInt,asIntOf,Sem.run_pure,typeInfo,run_program,hi,hib,hw1,hw2,hcond,Bool.false_eq_true,if_false,Sem.run_ite,run_askRoom,z1m hz]
  by_cases h0:cp.toNat*z=0
  ·simp only [h0,if_true,Sem.run_pure,Result.andThen_ok,newRow,Sem.run_bind,run_newObj]
   have e0:∀ f:Nat→Value,Array.map f (Array.range 0)=#[]:=fun f=>by simp
   rw [e0,e0]; rfl
  ·simp [h0,zeroValue,typeInfo,hi,hzv,newRow]
   rfl
 ·refine ⟨hzp,_,e,z3o _ _,fun i r hi=>?_,fun i r j y hi hy=>?_⟩
  ·simp [std,List.getElem?_replicate] at hi
   rw [←hi.2]; exact hezl
  ·simp [std,List.getElem?_replicate] at hi
   obtain ⟨hi1,rfl⟩:=hi
   have hj:j<z:=by rw [←hezl]; exact (List.getElem?_eq_some_iff.1 hy).1
   obtain ⟨v,hv,hrel⟩:=hzr (z0i (ρ.put new ⟨w.heap.size,0,z⟩) (z1i h new (.row (std.rep cp.toNat ez)))) (World.push w (.cells ((Array.range (cp.toNat*z)).map (zv.cells[· % zv.cells.size]!)) e)) j y hy
   have hlt:i*z+j<cp.toNat*z:=by
    have:(i+1)*z≤cp.toNat*z:=Nat.mul_le_mul_right _ (by omega)
    rw [Nat.add_mul] at this; omega
   have hmod:(i*z+j) % z=j:=by rw [Nat.add_comm,Nat.add_mul_mod_self_right]; exact Nat.mod_eq_of_lt hj
   refine ⟨v,?_,?_,hrel⟩
   ·simp only [Nat.zero_add]
    rw [hcell _ hlt,hmod]; simpa using hv
   ·have:w3t (.d y)=true:=z7o hb3 (by rw [z1y,hy]; rfl)
    exact y1c (ρ:=ρ) this (.d hrel)
 ·exact .slice new z 0 _ _ ⟨w.heap.size,0,z⟩ _ _ (Rho.put_same _ _ _) rfl (fun _=>by simp) (.inl rfl) (by omega)
theorem x75 {α:Type} {z:Nat} (hz:0<z):∀ (f:Nat) (l:List α) (es:List (List α)),x18 z f l=some es→l.length=es.length*z∧(∀ (i:Nat) (r:List α),es[i]?=some r→r.length=z)∧
  ∀ (i:Nat) (r:List α) (j:Nat),es[i]?=some r→j<z→l[i*z+j]?=r[j]?:=by
 intro f
 induction f with
 |zero=>
  intro l es h
  cases l with
  |nil=>simp [x18] at h; subst h; simp
  |cons _ _=>simp [x18] at h
 |succ f ih=>
  intro l es h
  cases l with
  |nil=>simp [x18] at h; subst h; simp
  |cons a l=>
   simp only [x18] at h
   split at h
   ·rename_i x hp
    cases hq:x18 z f ((a::l).drop z) with
    |none=>rw [hq] at h; cases h
    |some q=>
    rw [hq] at h; simp at h; subst h
    obtain ⟨p1,p2⟩:=z26 hp
    obtain ⟨q1,q2,q3⟩:=ih _ _ hq
    have hle:z≤(a::l).length:=by
     have:=p2 (z - 1) (by omega)
     rw [List.getElem?_eq_getElem (show z - 1<x.length by omega)] at this
     have:=(List.getElem?_eq_some_iff.1 this).1
     omega
    refine ⟨by simp only [List.length_drop] at q1; simp only [List.length_cons] at q1 hle⊢; rw [Nat.add_mul]; omega,fun i r hi=>?_,fun i r j hi hj=>?_⟩
    ·cases i with
     |zero=>simp at hi; subst hi; exact p1
     |succ i=>exact q2 i r (by simpa using hi)
    ·cases i with
     |zero=>simp at hi; subst hi; have:=p2 j hj; simpa using this
     |succ i=>
      have:=q3 i r j (by simpa using hi) hj
      rw [List.getElem?_drop] at this
      rw [←this]; congr 1; rw [Nat.add_mul]; omega
   ·cases h
theorem x4y {α:Type} (l:List α) (hl:0<l.length):∀ (n j:Nat),j<n*l.length→(w20 n l)[j]?=l[j % l.length]?
 |0,j,h=>by simp at h
 |n+1,j,h=>by
  simp only [w20]
  by_cases hj:j<l.length
  ·rw [List.getElem?_append_left hj,Nat.mod_eq_of_lt hj]
  ·rw [List.getElem?_append_right (by omega),x4y l hl n (j - l.length) (by rw [Nat.add_mul] at h; omega)]
   congr 1
   rw [Nat.mod_eq_sub_mod (a:=j) (by omega)]
theorem y4z {α:Type} (l:List α):∀ n,(w20 n l).length=n*l.length
 |0=>by simp [w20]
 |n+1=>by simp [w20,y4z l n,Nat.add_mul]; omega
theorem y66 (es:List (List AV)):(x9x es).rows=some es:=by
 unfold x9x
 split
 ·rename_i l hl
  have:∀ (es:List (List AV)) (l:List (List D)),y6q es=some l→z58 l=es:=by
   intro es
   induction es with
   |nil=>intro l h; simp [y6q] at h; subst h; rfl
   |cons x r ih=>
    intro l h
    simp only [y6q] at h
    split at h
    ·rename_i d q h1 h2; cases h; simp [z58,ih _ h2,z2m h1]
    ·cases h
  simp [AO.rows,this _ _ hl]
 ·rfl
theorem z33 {T:TypeId} {ti:TI} (ht:z8m P T ti) (hr:z0c P ρ h w) {new:Nat} (hn:ρ new=none) {len:Nat} {parts:List (Nat×AV)} {pv:Array (Nat×Value)}
  (hp:y34 ρ (z0i ρ h) w parts pv.toList) {res:Res} (hs:z2n ti new len parts=some res):z0r P ρ h w new (Instr.buildSlice T len pv) res∧∃ (rv:Array Value) (e:TypeId) (z eb:Nat) (ea:Bool) (ez:List D),ti.desc= .slc e z eb ea ez∧0<z∧(Instr.buildSlice T len pv).run P w= .ok (.slice (some ⟨w.heap.size,0,none⟩) len len) (World.push w (.cells rv e))∧
   ∀ i l,res.u=[(i, .row l)]→l.length=len∧z2t ρ (z0i ρ h) w z (z58 l) rv.toList:=by
 obtain ⟨d,hd,hda,hk⟩:=ht.desc
 unfold z2n at hs
 split at hs
 rotate_left
 ·cases hs
 rename_i e z eb ea ez hdesc
 rw [hdesc] at hk
 obtain ⟨rfl,hz,heb,_,hez,hezl⟩:=hk
 cases hb:(Nat.ble 1 z&&Nat.ble (len*z) 1000000) with
 |false=>rw [hb] at hs; cases hs
 |true=>
 rw [hb] at hs; simp only [cond_true] at hs
 simp only [Bool.and_eq_true] at hb
 have hzp:0<z:=Nat.le_of_ble_eq_true hb.1
 have hlz:len*z≤1000000:=Nat.le_of_ble_eq_true hb.2
 split at hs
 rotate_left
 ·cases hs
 rename_i l hl
 cases hlv:z6u l with
 |false=>rw [hlv] at hs; cases hs
 |true=>
 rw [hlv] at hs; simp only [cond_true] at hs
 split at hs
 rotate_left
 ·cases hs
 rename_i es hes
 cases hs
 obtain ⟨i,zv,hi,hzv,hzl⟩:∃ i zv,P.info? e=some i∧i.zero=some zv∧y1l zv.cells.toList=some ez:=by
  unfold y36 at hez
  cases hi:P.info? e with
  |none=>simp [hi] at hez
  |some i=>
   rw [hi] at hez
   simp at hez
   cases hzq:i.zero with
   |none=>simp [hzq] at hez
   |some zv=>exact ⟨i,zv,rfl,hzq,by simpa [hzq] using hez⟩
 obtain ⟨hzs,hzr⟩:=z7r hzl
 have hzsize:zv.cells.size=z:=by rw [←hezl,hzs]; simp
 have hzero:∃ zc:Array Value,(if len*z=0 then (Pure.pure #[]:Sem (Array Value)) else (do pure (←zeroValue e).cells)).run P w= .ok zc w∧(len*z≠0→zc=zv.cells):=by
  by_cases h0:len*z=0
  ·exact ⟨#[],by simp [h0],fun h=>absurd h0 h⟩
  ·exact ⟨zv.cells,by simp [h0,zeroValue,typeInfo,hi,hzv],fun _=>rfl⟩
 obtain ⟨zc,hzc,hzc2⟩:=hzero
 have hrl:(toA (w20 len ez)).length=len*z:=by rw [z08,y4z,hezl]
 obtain ⟨rv,g1,g2,g3⟩:=y3x (ρ:=ρ) (w:=w) (O:=z0i ρ h) _ parts pv.toList (toA (w20 len ez)) l ((Array.range (len*z)).map (zc[· % zc.size]!)) hl hp.1 hp.2 (by rw [hrl]; simp) (fun j x hx=>by
  have hj:j<len*z:=by rw [←hrl]; exact (List.getElem?_eq_some_iff.1 hx).1
  have hne:len*z≠0:=by omega
  rw [hzc2 hne]
  rw [z1y,x4y ez (by omega) len j (by rw [hezl]; exact hj),hezl] at hx
  have hlt:j % z<zv.cells.size:=by rw [hzsize]; exact Nat.mod_lt _ hzp
  cases hq:ez[j % z]? with
  |none=>simp [hq] at hx
  |some d=>
   simp [hq] at hx; subst hx
   obtain ⟨v,hv,hrel⟩:=hzr (z0i ρ h) w _ d hq
   refine ⟨v,?_, .d hrel⟩
   simp [hj,hzsize]
   rw [getElem!_pos zv.cells (j % z) hlt]
   have:zv.cells[j % z]?=some v:=by simpa using hv
   rw [Array.getElem?_eq_getElem hlt] at this; cases this; rfl)
 obtain ⟨k1,k2,k3⟩:=x75 hzp _ _ _ hes
 have heslen:es.length=len:=by
  have h1:l.length=len*z:=by
   rw [←g2]
   have:=(x1u hl)
   rw [g2,this,hrl]
  rw [h1] at k1
  exact (Nat.eq_of_mul_eq_mul_right hzp k1).symm
 have hrun:(Instr.buildSlice T len pv).run P w= .ok (.slice (some ⟨w.heap.size,0,none⟩) len len) (World.push w (.cells rv e)):=by
  unfold Instr.buildSlice
  simp only [Sem.run_bind,z0h hd,Result.andThen_ok,z1m hz,Sem.run_pure,Sem.run_ite,show ¬ (len*z>2 ^ 24) by omega,if_false]
  by_cases h0:len*z=0
  ·simp only [h0,if_true,Sem.run_pure] at hzc
   cases hzc
   simp only [h0,if_true] at g1⊢
   simp only [g1,newRow,Sem.run_bind,run_newObj,Result.andThen_ok,Sem.run_pure]
   rfl
  ·have hz2:=hzc2 h0
   subst hz2
   simp only [h0,if_false,zeroValue,typeInfo,Sem.run_bind,run_program,Result.andThen_ok,hi,Sem.run_pure,hzv,g1,newRow,run_newObj]
   rfl
 refine ⟨y2h hr hn (T:=e) rv (.slice new z 0 len (some len)) (x9x es) 0 z (.slice (some ⟨w.heap.size,0,none⟩) len len) hrun ?_ ?_,rv,e,z,eb,ea,ez,hdesc,hzp,hrun,fun i0 l0 hu=>?_⟩
 ·refine z17.of_rows (y66 es) hzp rv e (z3o _ _) k2 (fun i r j y hi hy=>?_)
  have hj:j<z:=by rw [←k2 i r hi]; exact (List.getElem?_eq_some_iff.1 hy).1
  have hly:l[i*z+j]?=some y:=by rw [k3 i r j hi hj]; exact hy
  obtain ⟨v,hv,hrel⟩:=g3 _ y hly
  exact ⟨v,by simpa using hv,y1c (z7o hlv hly) hrel,hrel.keep (z7p hr hn _ _ _ rfl) (Rho.put_mono _ _ _ hn)⟩
 ·exact .slice new z 0 _ _ ⟨w.heap.size,0,z⟩ _ _ (Rho.put_same _ _ _) rfl (fun _=>by simp) (.inl rfl) (Nat.le_refl _)
 ·have he:es=z58 l0:=by
   have h1:=y66 es
   have hu2:x9x es= .row l0:=by
    have:=congrArg (fun x:List (Nat×AO)=>x.head?.map (·.2)) hu
    simpa using this
   rw [hu2] at h1
   cases h1; rfl
  subst he
  rw [z03] at heslen
  refine ⟨heslen,?_,k2,fun i r j y hi hy=>?_⟩
  ·rw [z03,heslen,Array.length_toList,g2,k1,z03,heslen]
  ·have hj:j<z:=by rw [←k2 i r hi]; exact (List.getElem?_eq_some_iff.1 hy).1
   have hly:l[i*z+j]?=some y:=by rw [k3 i r j hi hj]; exact hy
   obtain ⟨v,hv,hrel⟩:=g3 _ y hly
   exact ⟨v,by simpa using hv,y1c (z7o hlv hly) hrel,hrel⟩
theorem y14 {T:TypeId} {ti:TI} (ht:z8m P T ti) (hr:z0c P ρ h w) {new:Nat} (hn:ρ new=none) {len:Nat} {parts:List (Nat×AV)} {pv:Array (Nat×Value)}
  (hp:y34 ρ (z0i ρ h) w parts pv.toList) {r:List D} {res:Res} (hs:z4c ti new len parts r=some res):z0r P ρ h w new (Instr.buildSlice T len pv) res:=by
 unfold z4c at hs
 split at hs
 ·exact (z33 ht hr hn hp hs).1
 ·split at hs
  ·split at hs
   ·rename_i res0 _ z _ _ _ h0 _
    cases hs
    obtain ⟨_,rv,e,_,_,_,_,_,_,hrun,_⟩:=z33 ht hr hn hp h0
    exact ⟨_,_,ρ,hrun, .d (.lnil _ _ _ _ (fun _=>rfl)),hr.push0 _,Ext.push0 _ hr _, .inl rfl⟩
   ·cases hs
  ·rename_i n
   split at hs
   ·rename_i res0 h0
    obtain ⟨hro,rv,e,z,eb,ea,ez,hdesc,hzp,hrun,hrows⟩:=z33 ht hr hn hp h0
    split at hs
    ·rename_i i l e' z' eb' ea' ez' hu hd'
     rw [hdesc] at hd'
     cases hd'
     cases hs
     obtain ⟨hl,hrr⟩:=hrows i l hu
     have hne:l≠[]:=by intro e0; rw [e0] at hl; simp at hl
     have:=w4n hr (new:=new) hzp (es:=l) (cs:=rv.toList) hrr hne e (rv:=rv) rfl (by rw [hl]; exact hrun)
     exact this
    ·cases hs; exact hro
   ·cases hs
theorem x87 (hr:z0c P ρ h w) {new:Nat} {op:UnOp} {x:AV} {v:Value} (hx:z0t ρ (z0i ρ h) w x v) {res:Res} (hs:x4p std op x=some res):z0r P ρ h w new (Op.unary op v) res:=by
 unfold x4p at hs
 split at hs
 ·rename_i k a
  cases hx with|d hx=>
  cases hx
  split at hs
  ·cases hs
   exact z0r.pure hr (by simp [Op.unary,Op.intArith,std,x28]) (.d (.int _ _))
  ·cases hs
   exact z0r.pure hr (by simp [Op.unary,Op.intBits,std,x28]) (.d (.int _ _))
  ·cases hs
 ·rename_i b
  cases hx with|d hx=>
  cases hx
  split at hs
  ·cases hs; exact z0r.pure hr (by simp [Op.unary]) (.d (.bool _))
  ·cases hs
 ·cases hs
theorem y6f {S T:TypeId} {ts tt:TI} (hS:z8m P S ts) (hT:z8m P T tt) (hr:z0c P ρ h w) {new:Nat} {x:AV} {v:Value} (hx:z0t ρ (z0i ρ h) w x v) {res:Res} (hs:z72 std ts tt x=some res):
  z0r P ρ h w new (convert S T v) res:=by
 obtain ⟨d,hd,_,hk⟩:=hS.desc
 obtain ⟨d2,hd2,_,hk2⟩:=hT.desc
 unfold z72 at hs
 split at hs
 ·split at hs
  ·rename_i h1 h2
   rw [h1] at hk; rw [h2] at hk2
   cases hk; cases hk2
   cases hx with|d hx=>
   cases hx; cases hs
   exact z0r.pure hr (by simp [convert,z0h hd,z0h hd2,Conv.intToInt,std]) (.d (.int _ _))
  ·cases hs
 ·split at hs
  ·rename_i h1 h2
   rw [h1] at hk; rw [h2] at hk2
   cases hk; cases hk2
   cases hx with|d hx=>
   cases hx; cases hs
   exact z0r.pure hr (by simp [convert,z0h hd,z0h hd2]) (.d (.str _))
  ·cases hs
 ·cases hs
theorem w72 {T:TypeId} {ti:TI} (ht:z8m P T ti) (hr:z0c P ρ h w) {new:Nat} {ty:TypeId} {x:AV} {v:Value} (hx:z0t ρ (z0i ρ h) w x v) {res:Res} (hs:w3s std ti h x=some res):
  z0r P ρ h w new (Builtin.len_ #[T] ty #[v]) res:=by
 obtain ⟨d,hd,_,hk⟩:=ht.desc
 have sl:∀ (e:TypeId) (a:Option Addr) (n c:Nat),d= .slice e→v= .slice a n c→(Builtin.len_ #[T] ty #[v]).run P w= .ok (.int .i64 n) w:=by
  intro e a n c h1 h2; subst h1; subst h2
  simp [Builtin.len_,z0h hd,goInt]
 unfold w3s at hs
 split at hs
 ·split at hs
  ·rename_i h1
   rw [h1] at hk; obtain ⟨rfl,_⟩:=hk
   cases hs
   cases hx with|d hx=>
   cases hx with
   |lnil=>exact z0r.pure hr (sl _ _ _ _ rfl rfl) (.d (.int _ _))
   |list=>exact z0r.pure hr (sl _ _ _ _ rfl rfl) (.d (.int _ _))
  ·cases hs
 ·split at hs
  ·rename_i h1
   rw [h1] at hk; obtain ⟨rfl,_⟩:=hk
   cases hs
   cases hx with
   |nils=>exact z0r.pure hr (sl _ _ _ _ rfl rfl) (.d (.int _ _))
   |slice=>exact z0r.pure hr (sl _ _ _ _ rfl rfl) (.d (.int _ _))
  ·cases hs
 ·split at hs
  ·rename_i h1
   rw [h1] at hk; cases hk
   cases hs
   cases hx with|d hx=>
   cases hx
   exact z0r.pure hr (by simp [Builtin.len_,z0h hd,goInt,std]) (.d (.int _ _))
  ·cases hs
 ·split at hs
  ·rename_i h1
   rw [h1] at hk; obtain ⟨e,rfl,_⟩:=hk
   cases hs
   exact z0r.pure hr (by simp [Builtin.len_,z0h hd,goInt,std]) (.d (.int _ _))
  ·cases hs
 ·split at hs
  ·rename_i h1
   rw [h1] at hk; obtain ⟨e,e',rfl,he,_⟩:=hk
   cases hs
   exact z0r.pure hr (by simp [Builtin.len_,z0h hd,z0h he,goInt,std]) (.d (.int _ _))
  ·cases hs
 ·split at hs
  ·rename_i h1
   rw [h1] at hk; obtain ⟨k,e,rfl,_⟩:=hk
   cases hs
   cases hx with|d hx=>
   cases hx
   exact z0r.pure hr (by simp [Builtin.len_,z0h hd,goInt]) (.d (.int _ _))
  ·cases hs
 ·split at hs
  ·rename_i h1 h2
   rw [h1] at hk; obtain ⟨k,e,rfl,_⟩:=hk
   cases hs
   cases hx with
   |map _ L hL=>
    obtain ⟨_,ho⟩:=hr.obj _ L hL
    rw [h2] at ho
    obtain ⟨en,clk,hb,hsz,_⟩:=ho
    exact z0r.pure hr (by simp [Builtin.len_,z0h hd,goInt,getObj,Sem.run,hb,hsz.1,std]) (.d (.int _ _))
  ·cases hs
 ·cases hs
end
end Go.Am
end
section
namespace Go.Am
section
variable {P:Program} {ρ:Rho} {h:List AO} {w:World}
def y3c (ρ:Rho) (O:Nat→Prop) (w:World):Option AV→Option Value→Prop
 |none,none=>True
 |some x,some v=>z0t ρ O w x v
 |_,_=>False
theorem y0i {O:Nat→Prop} {x:Option AV} {v:Option Value} (hx:y3c ρ O w x v) {n:Option Int} (h:w5x x=some n):match n with|none=>v=none|some i=>∃ k,v=some (.int k i):=by
 unfold w5x at h
 split at h
 ·cases h; cases v with
  |none=>rfl
  |some _=>exact hx.elim
 ·cases h; cases v with
  |none=>exact hx.elim
  |some v=>cases hx with|d hx=>cases hx; exact ⟨_,rfl⟩
 ·cases h
theorem z7f (k:IntKind) (i:Int) (y:Nat) (code:BoundsCode) (h0:0≤i) (h1:i≤y):(Instr.sliceBound (.int k i) y code).run P w= .ok i.toNat w:=by
 simp [Instr.sliceBound,asIntOf,h0,h1]
theorem z4w {O:Nat→Prop} {lo hi mx:Option AV} {vl vh vm:Option Value} (hl:y3c ρ O w lo vl) (hh:y3c ρ O w hi vh) (hm:y3c ρ O w mx vm) {l h m:Option Int} (el:w5x lo=some l) (eh:w5x hi=some h) (em:w5x mx=some m)
  (isSlice:Bool) (len cap:Nat) (L H M:Int) (eL:L=z51 l 0) (eH:H=z51 h len) (eM:M=z51 m cap)
  (hmh:m≠none→h≠none) (h0:0≤L) (h1:L≤H) (h2:H≤M) (h3:M≤cap) (hcl:(len:Int)≤cap):
  (Instr.sliceBounds isSlice len cap vl vh vm).run P w= .ok (L.toNat,H.toNat,M.toNat) w:=by
 have rl:=y0i hl el
 have rh:=y0i hh eh
 have rm:=y0i hm em
 unfold z51 at eL eH eM
 unfold Instr.sliceBounds
 cases m with
 |none=>
  simp at rm; subst rm
  simp only at eM; subst eM
  cases h with
  |none=>
   simp at rh; subst rh
   simp only at eH; subst eH
   cases l with
   |none=>simp at rl; subst rl; simp only at eL; subst eL; simp
   |some l=>
    obtain ⟨k,rfl⟩:=rl; simp only at eL; subst eL
    simp [z7f k L len _ h0 h1]
  |some hh=>
   obtain ⟨k,rfl⟩:=rh; simp only at eH; subst eH
   have hb:=z7f (P:=P) (w:=w) k H cap (if isSlice then .sliceAcap else .sliceAlen) (by omega) h2
   cases l with
   |none=>simp at rl; subst rl; simp only at eL; subst eL; simp [hb]
   |some l=>
    obtain ⟨k2,rfl⟩:=rl; simp only at eL; subst eL
    simp [hb,z7f k2 L H.toNat _ h0 (by omega)]
 |some mm=>
  obtain ⟨k,rfl⟩:=rm; simp only at eM; subst eM
  have hbm:=z7f (P:=P) (w:=w) k M cap (if isSlice then .slice3Acap else .slice3Alen) (by omega) h3
  cases h with
  |none=>exact absurd rfl (hmh (by simp))
  |some hh=>
   obtain ⟨k2,rfl⟩:=rh; simp only at eH; subst eH
   have hb:=z7f (P:=P) (w:=w) k2 H M.toNat .slice3B (by omega) (by omega)
   cases l with
   |none=>simp at rl; subst rl; simp only at eL; subst eL; simp [hbm,hb]
   |some l=>
    obtain ⟨k3,rfl⟩:=rl; simp only at eL; subst eL
    simp [hbm,hb,z7f k3 L H.toNat _ h0 (by omega)]
theorem z4u {T:TypeId} {e:TypeId} {z:Nat} (hd:P.underlying T=some (.slice e)) (hz:z8q P e=some z) {vl vh vm:Option Value} {a:Option Addr} {len cap l h m:Nat}
  (hb:(Instr.sliceBounds true len cap vl vh vm).run P w= .ok (l,h,m) w):(Instr.sliceAt T (.slice a len cap) vl vh vm).run P w= .ok (.slice (if m=l then a else a.map (·.add (l*z))) (h - l) (m - l)) w:=by
 simp [Instr.sliceAt,Instr.slice,z0h hd,hb,z1m hz]
theorem w86 {O : Nat → Prop} {full f' : Bool} {z : Nat} {es : List (List D)} {a : Option Addr} {n c : Nat} (hx : z12 O w (.list full z es) (.slice a n c)) (L H M : Nat) (h1 : L ≤ H) (h2 : H ≤ M) (h3 : H ≤ es.length) (h4 : M ≤ c) (hf : f' = true → M = H) :
    n = es.length ∧ n ≤ c ∧ (full = true → c = n) ∧ z12 O w (.list f' z ((es.drop L).take (H - L))) (.slice (if M = L then a else a.map (·.add (L * z))) (H - L) (M - L)) := by
  cases hx with
  | lnil _ _ _ _ hcap =>
    refine ⟨rfl, Nat.zero_le _, hcap, ?_⟩
    simp at h3
    have e : H - L = 0 := by omega
    rw [e]
    simp
    exact .lnil _ _ _ _ (fun h => by have := hf h; omega)
  | list _ _ b o z c hz hne hO hlc hfull hsz cell h1c hcell hh =>
    refine ⟨rfl, hlc, hfull, ?_⟩
    have hlen : ((es.drop L).take (H - L)).length = H - L := by simp; omega
    by_cases hHL : H = L
    · have e : H - L = 0 := by omega
      rw [e]; simp
      exact .lnil _ _ _ _ (fun h => by have := hf h; omega)
    · rw [if_neg (by omega)]
      have hget : ∀ i, ((es.drop L).take (H - L))[i]? = if i < H - L then es[L + i]? else none := fun i => z1h es L (H - L) i
      have := z12.list (O := O) (w := w) f' ((es.drop L).take (H - L)) b (o + L * z) z (M - L) hz (by intro e; rw [e] at hlen; simp at hlen; omega) hO (by rw [hlen]; omega) (fun h => by have := hf h; rw [hlen]; omega)
        (fun i r hi => by rw [hget] at hi; split at hi
                          · exact hsz _ r hi
                          · cases hi) (fun k => cell (L * z + k)) (fun k hk => by
          rw [hlen] at hk
          refine h1c _ ?_
          have : L * z + (H - L) * z ≤ es.length * z := by rw [← Nat.add_mul]; exact Nat.mul_le_mul_right _ (by omega)
          omega) (fun k hk => by
          rw [hlen] at hk
          rw [Nat.add_assoc]
          refine hcell _ ?_
          have : L * z + (H - L) * z ≤ es.length * z := by rw [← Nat.add_mul]; exact Nat.mul_le_mul_right _ (by omega)
          omega) (fun i r j d hi hj => by
          rw [hget] at hi
          split at hi
          · have := hh _ r j d hi hj
            rw [Nat.add_mul, Nat.add_assoc] at this; exact this
          · cases hi)
      rw [hlen] at this
      simpa [z49] using this
theorem x0n {T : TypeId} {ti : TI} (ht : z8m P T ti) (hr : z0c P ρ h w) {new : Nat} {x : AV} {v : Value} (hx : z0t ρ (z0i ρ h) w x v) {lo hi mx : Option AV} {vl vh vm : Option Value}
    (hl : y3c ρ (z0i ρ h) w lo vl) (hh : y3c ρ (z0i ρ h) w hi vh) (hm : y3c ρ (z0i ρ h) w mx vm) {r : List D} {ra : List AV} (hrow : (z4a h x).ok false r ra) {res : Res} (hs : z59 std ti h r x lo hi mx = some res) (hc : res.c = true) :
    z0r P ρ h w new (Instr.sliceAt T v vl vh vm) res := by
  obtain ⟨d, hd, _, hk⟩ := ht.desc
  unfold z59 at hs
  split at hs
  rotate_left
  · cases hs
  rename_i l hi' m el eh em
  split at hs
  ·
    rename_i full z es
    split at hs
    · rename_i e z' eb ea ez hdesc
      rw [hdesc] at hk
      obtain ⟨rfl, hz, _⟩ := hk
      cases hb : Nat.beq z z' with
      | false => rw [hb] at hs; cases hs
      | true =>
      rw [hb] at hs; simp only [cond_true] at hs
      have hzz := Nat.eq_of_beq_eq_true hb
      subst hzz
      cases hx with | d hx =>
      obtain ⟨a, n, c, rfl⟩ : ∃ a n c, v = .slice a n c := by cases hx <;> exact ⟨_, _, _, rfl⟩
      obtain ⟨hn, hnc, hfull, _⟩ := w86 (f' := false) hx 0 0 0 (by omega) (by omega) (by omega) (by omega) (by simp)
      split at hs
      · cases hs
        simp only at hc
        obtain ⟨c1, hc⟩ := and_true hc
        obtain ⟨c2, c3⟩ := and_true hc
        have c1 := z3a c1
        have c2 : z51 l 0 ≤ z51 hi' ((es.length : Nat) : Int) := z21 c2
        have c3 : z51 hi' ((es.length : Nat) : Int) ≤ ((es.length : Nat) : Int) := z21 c3
        have hbd := z4w (P := P) (w := w) hl hh hm el eh em true n c (z51 l 0) (z51 hi' ((es.length : Nat) : Int)) c rfl (by rw [hn]) rfl (by simp) c1 c2 (by omega) (by omega) (by omega)
        obtain ⟨_, _, _, hD⟩ := w86 (f' := std.and full (std.cmp .eql (z51 hi' (std.ofNat (std.len es))) (std.ofNat (std.len es)))) hx _ _ c
          (show (z51 l 0).toNat ≤ (z51 hi' ((es.length : Nat) : Int)).toNat by
            omega) (by have := c3; omega) (by have := c3; omega) (Nat.le_refl _) (fun hf => by
            obtain ⟨f1, f2⟩ := and_true hf
            have f2 : z51 hi' ((es.length : Nat) : Int) = ((es.length : Nat) : Int) := by simpa [std, z6a] using f2
            have := hfull f1
            rw [f2]; simp; omega)
        exact z0r.pure hr (z4u hd hz hbd) (.d hD)
      · rename_i mm
        split at hs
        · rename_i hh'
          cases hs
          simp only at hc
          obtain ⟨c1, hc⟩ := and_true hc
          obtain ⟨c2, hc⟩ := and_true hc
          obtain ⟨c3, c4⟩ := and_true hc
          have c1 := z3a c1
          have c2 := z21 c2
          have c3 := z21 c3
          have c4 : mm ≤ ((es.length : Nat) : Int) := z21 c4
          have hbd := z4w (P := P) (w := w) hl hh hm el eh em true n c (z51 l 0) hh' mm rfl rfl rfl (by simp) c1 c2 c3 (by omega) (by omega)
          obtain ⟨_, _, _, hD⟩ := w86 (f' := std.cmp .eql hh' mm) hx _ hh'.toNat mm.toNat (show (z51 l 0).toNat ≤ hh'.toNat by omega) (by omega) (by omega) (by omega) (fun hf => by
            have : hh' = mm := by simpa [std, z6a] using hf
            rw [this])
          exact z0r.pure hr (z4u hd hz hbd) (.d hD)
        · cases hs
    · cases hs
  ·
    rename_i id z off len cap
    split at hs
    · rename_i e z' eb ea ez hdesc
      rw [hdesc] at hk
      obtain ⟨rfl, hz, _⟩ := hk
      cases hb : Nat.beq z z' with
      | false => rw [hb] at hs; cases hs
      | true =>
      rw [hb] at hs; simp only [cond_true] at hs
      have hzz := Nat.eq_of_beq_eq_true hb
      subst hzz
      cases hx with
      | nils _ _ _ _ a hcc =>
        have keyn : ∀ (L H M : Nat) (cap' : Option Nat), L ≤ H → H ≤ 0 → M ≤ 0 → (cap' = none ∨ cap' = some 0) →
            z0t ρ (z0i ρ h) w (.slice id z (off + L) (H - L) cap') (.slice (if M = L then a else a.map (·.add (L * z))) (H - L) (M - L)) := by
          intro L H M cap' h1 h2 h3 h4
          obtain rfl : L = 0 := by omega
          obtain rfl : H = 0 := by omega
          obtain rfl : M = 0 := by omega
          exact .nils _ _ _ _ _ h4
        split at hs
        · cases hs
          simp only at hc
          obtain ⟨c1, hc⟩ := and_true hc
          obtain ⟨c2, c3⟩ := and_true hc
          have c1 := z3a c1
          have c2 : z51 l 0 ≤ z51 hi' ((0 : Nat) : Int) := z21 c2
          have c3 : z51 hi' ((0 : Nat) : Int) ≤ ((0 : Nat) : Int) := z21 c3
          have hbd := z4w (P := P) (w := w) hl hh hm el eh em true 0 0 (z51 l 0) (z51 hi' ((0 : Nat) : Int)) ((0 : Nat) : Int) rfl rfl rfl (by simp) c1 c2 (by omega) (by omega) (by omega)
          refine z0r.pure hr (z4u hd hz hbd) (keyn (z51 l 0).toNat (z51 hi' ((0 : Nat) : Int)).toNat _ _ (by omega) (by omega) (by simp) ?_)
          have e0 : (z51 l 0).toNat = 0 := by omega
          rcases hcc with hcc | hcc
          · subst hcc; exact .inl rfl
          · subst hcc; exact .inr (by simp [w6l, std])
        · rename_i mm
          split at hs
          · rename_i hh'
            cases hs
            simp only at hc
            obtain ⟨c1, hc⟩ := and_true hc
            obtain ⟨c2, hc⟩ := and_true hc
            obtain ⟨c3, c4⟩ := and_true hc
            have c1 := z3a c1
            have c2 := z21 c2
            have c3 := z21 c3
            have c4 : mm ≤ ((0 : Nat) : Int) := z21 c4
            have hbd := z4w (P := P) (w := w) hl hh hm el eh em true 0 0 (z51 l 0) hh' mm rfl rfl rfl (by simp) c1 c2 c3 (by omega) (by omega)
            refine z0r.pure hr (z4u hd hz hbd) (keyn (z51 l 0).toNat hh'.toNat mm.toNat _ (by omega) (by omega) (by omega) (.inr ?_))
            show some (mm.toNat - (z51 l 0).toNat) = some 0
            congr 1; omega
          · cases hs
      | slice _ _ _ _ _ Lc a c hL hLz haa hcc hle =>
      have key : ∀ (L H M : Nat) (cap' : Option Nat), L ≤ H → H ≤ M → M ≤ c → (cap' = some (M - L) ∨ (cap' = none ∧ M = c ∧ cap = none)) →
          z0t ρ (z0i ρ h) w (.slice id z (off + L) (H - L) cap') (.slice (if M = L then a else a.map (·.add (L * z))) (H - L) (M - L)) := by
        intro L H M cap' h1 h2 h3 h4
        refine .slice id z _ _ _ Lc _ _ hL hLz (fun hpos => ?_) ?_ (by omega)
        · rw [if_neg (by omega), haa (by omega)]
          simp [z49, hLz, Nat.add_mul, Nat.add_assoc]
        · rcases h4 with h4 | ⟨h4, rfl, hcn⟩
          · exact .inl h4
          · rcases hcc with hcc | ⟨_, nb, hnb, hroom⟩
            · rw [hcn] at hcc; cases hcc
            · exact .inr ⟨h4, nb, hnb, by rw [show off + L + (M - L) = off + M by omega]; exact hroom⟩
      split at hs
      · cases hs
        simp only at hc
        obtain ⟨c1, hc⟩ := and_true hc
        obtain ⟨c2, c3⟩ := and_true hc
        have c1 := z3a c1
        have c2 : z51 l 0 ≤ z51 hi' ((len : Nat) : Int) := z21 c2
        have c3 : z51 hi' ((len : Nat) : Int) ≤ ((len : Nat) : Int) := z21 c3
        have hbd := z4w (P := P) (w := w) hl hh hm el eh em true len c (z51 l 0) (z51 hi' ((len : Nat) : Int)) c rfl rfl rfl (by simp) c1 c2 (by omega) (by omega) (by omega)
        refine z0r.pure hr (z4u hd hz hbd) (key (z51 l 0).toNat (z51 hi' ((len : Nat) : Int)).toNat c _ (by omega) (by omega) (Nat.le_refl _) ?_)
        rcases hcc with hcc | ⟨hcc, _⟩
        · subst hcc; exact .inl rfl
        · subst hcc; exact .inr ⟨rfl, rfl, rfl⟩
      · rename_i mm
        split at hs
        · rename_i hh'
          cases hs
          simp only at hc
          obtain ⟨c1, hc⟩ := and_true hc
          obtain ⟨c2, hc⟩ := and_true hc
          obtain ⟨c3, c4⟩ := and_true hc
          have c1 := z3a c1
          have c2 := z21 c2
          have c3 := z21 c3
          have c4 : mm ≤ ((len : Nat) : Int) := z21 c4
          have hbd := z4w (P := P) (w := w) hl hh hm el eh em true len c (z51 l 0) hh' mm rfl rfl rfl (by simp) c1 c2 c3 (by omega) (by omega)
          exact z0r.pure hr (z4u hd hz hbd) (key (z51 l 0).toNat hh'.toNat mm.toNat _ (by omega) (by omega) (by omega) (.inl rfl))
        · cases hs
    · cases hs
  ·
    rename_i id off
    split at hs
    · rename_i n esz ea hdesc
      rw [hdesc] at hk
      obtain ⟨e, rfl, hsz, _⟩ := hk
      have hvl := y0i hl el
      have hvh := y0i hh eh
      have hvm := y0i hm em
      simp at hvl hvh hvm
      subst hvl; subst hvh; subst hvm
      split at hs
      · rename_i es r0 hob
        cases hb : Nat.beq esz 1 with
        | false => rw [hb] at hs; cases hs
        | true =>
        rw [hb] at hs; cases hs
        have he := Nat.eq_of_beq_eq_true hb
        subst he
        cases hx with
        | bptr _ _ L hL =>
          have ho := (hr.obj id L hL).2
          rw [hob] at ho
          have ho2 := ho
          obtain ⟨_, c, t, hcb, _, _⟩ := ho
          simp only [z4a, hob] at hrow
          obtain ⟨h1, hlt, _⟩ := y0s ho2 hrow hcb (j := 0) (x := r0) rfl
          refine z0r.pure (v := .slice (some ⟨L.blk, L.base + off, none⟩) n n) hr ?_ ?_
          · simp only [Instr.sliceAt, Sem.run_bind, z0h hd, Result.andThen_ok, Instr.sureAddr, Instr.sliceBounds, Sem.run_pure, z1m hsz, Nat.sub_zero, Nat.zero_mul, z49, Nat.add_zero]
            split <;> rfl
          · refine .slice id 1 off n (some n) L _ n hL h1 (fun _ => ?_) (.inl rfl) (Nat.le_refl _)
            rw [h1, Nat.mul_one]
      · cases hs
    · cases hs
  ·
    rename_i s
    split at hs
    · rename_i hdesc
      rw [hdesc] at hk
      cases hk
      cases hs
      simp only at hc
      obtain ⟨c1, hc⟩ := and_true hc
      obtain ⟨c2, c3⟩ := and_true hc
      have c1 := z3a c1
      have c2 : z51 l 0 ≤ z51 hi' ((s.size : Nat) : Int) := z21 c2
      have c3 : z51 hi' ((s.size : Nat) : Int) ≤ ((s.size : Nat) : Int) := z21 c3
      cases hx with | d hx =>
      cases hx
      have hvm := y0i hm em
      simp at hvm; subst hvm
      have hbd := z4w (P := P) (w := w) hl hh (mx := none) (vm := none) trivial el eh rfl false s.size s.size (z51 l 0) (z51 hi' ((s.size : Nat) : Int)) s.size rfl rfl rfl (by simp) c1 c2 (by omega) (by omega) (by omega)
      refine z0r.pure hr ?_ (.d (.str _))
      simp [Instr.sliceAt, Instr.slice, z0h hd, hbd, std]
    · cases hs
  · cases hs
theorem y6u (hr:z0c P ρ h w) {new:Nat} {op:BinOp} (hop:op= .lss∨op= .gtr) {xs:List AV} {vs:List Value} (hl:vs.length=xs.length) (hx:∀ (i:Nat) (x:AV) (v:Value),xs[i]?=some x→vs[i]?=some v→z0t ρ (z0i ρ h) w x v)
  {a:Array TypeId} {t:TypeId} {res:Res} (hs:y12 std op xs=some res):z0r P ρ h w new ((if op= .lss then Builtin.min_ else Builtin.max_) a t vs.toArray) res:=by
 have one:∀ (i:Nat) (k:IntKind) (n:Int) (v:Value),xs[i]?=some (.d (.int k n))→vs[i]?=some v→v= .int k n:=by
  intro i k n v h1 h2
  have:=hx i _ v h1 h2
  cases this with|d h=>cases h; rfl
 unfold y12 at hs
 split at hs
 ·cases hs
  obtain ⟨v1,v2,rfl⟩:∃ a b,vs=[a,b]:=by
   match vs,hl with|[a,b],_=>exact ⟨a,b,rfl⟩
  have e1:=one 0 _ _ v1 rfl rfl
  have e2:=one 1 _ _ v2 rfl rfl
  subst e1; subst e2
  rcases hop with rfl|rfl
  ·exact z0r.pure hr (by simp [Builtin.min_,Builtin.min2,std]) (.d (.int _ _))
  ·exact z0r.pure hr (by simp [Builtin.max_,Builtin.max2,std]) (.d (.int _ _))
 ·cases hs
  obtain ⟨v1,v2,v3,rfl⟩:∃ a b c,vs=[a,b,c]:=by
   match vs,hl with|[a,b,c],_=>exact ⟨a,b,c,rfl⟩
  have e1:=one 0 _ _ v1 rfl rfl
  have e2:=one 1 _ _ v2 rfl rfl
  have e3:=one 2 _ _ v3 rfl rfl
  subst e1; subst e2; subst e3
  rcases hop with rfl|rfl
  ·exact z0r.pure hr (by simp [Builtin.min_,Builtin.min2,std]) (.d (.int _ _))
  ·exact z0r.pure hr (by simp [Builtin.max_,Builtin.max2,std]) (.d (.int _ _))
 ·cases hs
  obtain ⟨v1,rfl⟩:∃ a,vs=[a]:=by
   match vs,hl with|[a],_=>exact ⟨a,rfl⟩
  have e1:=one 0 _ _ v1 rfl rfl
  subst e1
  rcases hop with rfl|rfl
  ·exact z0r.pure hr (by simp [Builtin.min_]) (.d (.int _ _))
  ·exact z0r.pure hr (by simp [Builtin.max_]) (.d (.int _ _))
 ·cases hs
end
end Go.Am
end
section
namespace Go.Am
section
variable {P:Program} {ρ:Rho} {h:List AO} {w:World}
def z5h:List SK→List Value→Prop
 |[],[]=>True
 | .i::ks, .int _ _::r=>z5h ks r
 | .b::ks, .bool _::r=>z5h ks r
 | .s::ks, .string _::r=>z5h ks r
 |_,_=>False
theorem y1d:∀ (ks:List SK) (xs:List Value),z5h ks xs→xs.length=ks.length
 |[],[],_=>rfl
 |[],_::_,h=>h.elim
 |k::ks,[],h=>by cases k<;>exact h.elim
 | .i::ks,x::xs,h=>by cases x<;>simp only [z5h] at h; simp [y1d ks xs h]
 | .b::ks,x::xs,h=>by cases x<;>simp only [z5h] at h; simp [y1d ks xs h]
 | .s::ks,x::xs,h=>by cases x<;>simp only [z5h] at h; simp [y1d ks xs h]
theorem w3w {O:Nat→Prop}:∀ (ks:List SK) (ds:List D) (xs:List Value),z1n ks ds=true→xs.length=ds.length→(∀ (j:Nat) (y:D) (u:Value),ds[j]?=some y→xs[j]?=some u→z12 O w y u)→z5h ks xs:=by
 intro ks
 induction ks with
 |nil=>intro ds xs h hl hr; cases ds<;>simp [z1n] at h; cases xs<;>simp at hl; trivial
 |cons k ks ih=>
  intro ds xs h hl hr
  cases ds with
  |nil=>cases k<;>simp [z1n] at h
  |cons d ds=>
  cases xs with
  |nil=>simp at hl
  |cons x xs=>
  have h0:=hr 0 d x rfl rfl
  have ht:∀ (hk:z1n ks ds=true),z5h ks xs:=fun hk=>ih ds xs hk (by simpa using hl) (fun j y u hy hu=>hr (j+1) y u (by simpa using hy) (by simpa using hu))
  cases k<;>cases d<;>simp [z1n] at h<;>cases h0<;>exact ht h
theorem y0k:∀ (k1 k2:List SK) (xs:List Value),z5h (k1++k2) xs→z5h k1 (xs.take k1.length)∧z5h k2 (xs.drop k1.length)
 |[],k2,xs,h=>⟨by simp [z5h],by simpa using h⟩
 |k::k1,k2,[],h=>by cases k<;>exact h.elim
 |k::k1,k2,x::xs,h=>by
  cases k<;>cases x<;>simp only [List.cons_append,z5h] at h
  all_goals (obtain ⟨a,b⟩:=y0k k1 k2 xs h; exact ⟨by simpa [z5h] using a,by simpa using b⟩)
theorem y6o (n d : Nat) (em : Bool) (ih : ∀ (t : TypeId) (ks : List SK) (x : Value) (xs : List Value) (w : World), flatK P n t = some ks → z91 P t x xs → z5h ks xs → (Instr.checkKey em d t x).run P w = .ok () w) :
  ∀ (fs : List Field) (off : Nat) (ks : List SK) (xs : List Value), w2z P (flatK P n) off fs = some ks → xs.length = off + ks.length → z5h ks (xs.drop off) →
   ((forIn fs PUnit.unit (fun f _ => (do
    if f.name ≠ "_" then
     Instr.checkKey em d f.type (← Go.part f.type xs.toArray f.offset)
     pure (.yield PUnit.unit)
    else pure (.yield PUnit.unit) : Sem (ForInStep PUnit)))) : Sem PUnit).run P w = .ok PUnit.unit w := by
 intro fs
 induction fs with
 | nil => intro off ks xs hr hx hk; simp
 | cons f fs ihf =>
  intro off ks xs hr hx hk
  simp only [w2z] at hr
  split at hr
  ·rename_i hc
   obtain ⟨hn, ho⟩ := hc
   split at hr
   ·rename_i k1 hk1
    split at hr
    ·rename_i hs
     cases hq : w2z P (flatK P n) (off + k1.length) fs with
     | none => rw [hq] at hr; cases hr
     | some k2 =>
     rw [hq] at hr; simp at hr; subst hr
     obtain ⟨a, ha⟩ := y1i hk1
     have h1 := y1h hk1 ha
     rw [List.length_append] at hx
     obtain ⟨vx, rx, hx1⟩ := z7c (P := P) hs ha xs off (by omega) h1
     obtain ⟨b1, b2⟩ := y0k _ _ _ hk
     rw [List.drop_drop] at b2
     have hq1 := ih f.type k1 vx _ w hk1 hx1 b1
     have hrest := ihf (off + k1.length) k2 xs hq (by omega) b2
     rw [← ho] at rx
     rw [List.forIn_cons]
     simp only [hn, ne_eq, not_false_eq_true, if_true, Sem.run_bind, rx, hq1, Result.andThen_ok, Sem.run_pure]
     exact hrest
    ·cases hr
   ·cases hr
  ·cases hr
theorem y6n (d:Nat) (em:Bool) (e:TypeId) (s:Nat) (a:Bool) (ks:List SK) (hks:ks.length=s) (hs:z8q P e=some s) (ha:z3u P e=some a) (h1:a=false→s=1)
  (ih:∀ (x:Value) (xs:List Value) (w:World),z91 P e x xs→z5h ks xs→(Instr.checkKey em d e x).run P w= .ok () w) (xs:List Value):
  ∀ (m i:Nat),xs.length=(i+m)*s→z5h (List.replicate m ks).flatten (xs.drop (i*s))→
   ((forIn (List.range' i m) PUnit.unit (fun i _=>(do
    Instr.checkKey em d e (←Go.part e xs.toArray (i*(←sizeOf e)))
    pure (.yield PUnit.unit):Sem (ForInStep PUnit)))):Sem PUnit).run P w= .ok PUnit.unit w:=by
 intro m
 induction m with
 |zero=>intro i hx hb; simp
 |succ m ihm=>
  intro i hx hb
  simp only [List.replicate_succ,List.flatten_cons] at hb
  have hmul:(i+(m+1))*s=i*s+s+m*s:=by rw [Nat.add_mul,Nat.add_mul]; omega
  obtain ⟨e1,e2⟩:=y0k _ _ _ hb
  rw [hks] at e1 e2
  rw [List.drop_drop] at e2
  obtain ⟨vx,rx,hx1⟩:=z7c (P:=P) hs ha xs (i*s) (by omega) h1
  have hq:=ih vx _ w hx1 e1
  have hrest:=ihm (i+1) (by rw [hx]; congr 1; omega) (by rw [Nat.add_mul,Nat.one_mul]; exact e2)
  rw [List.range'_succ,List.forIn_cons]
  simp only [Sem.run_bind,z1m hs,rx,hq,Result.andThen_ok,Sem.run_pure]
  exact hrest
theorem x4e (em:Bool):∀ (n d:Nat),n≤d→∀ (t:TypeId) (ks:List SK) (x:Value) (xs:List Value) (w:World),flatK P n t=some ks→z91 P t x xs→z5h ks xs→
  (Instr.checkKey em d t x).run P w= .ok () w:=by
 intro n
 induction n with
 |zero=>intro d _ t ks x xs w hf; simp [flatK] at hf
 |succ n ih=>
  intro d hd t ks x xs w hf hx hk
  obtain ⟨d,rfl⟩:∃ e,d=e+1:=⟨d - 1,by omega⟩
  obtain ⟨a,ha,hs,hxa⟩:=hx
  unfold z3u at ha
  simp only [flatK] at hf
  split at hf
  rotate_left
  ·cases hf
  rename_i k0 hk0
  split at hf
  rotate_left
  ·cases hf
  cases hf
  have hlen:=y1d _ _ hk
  unfold w0k at hk0
  cases hu:P.underlying t with
  |none=>simp [hu] at ha
  |some ds=>
   simp [hu] at ha; subst ha
   rw [hu] at hk0
   cases ds<;>simp only at hk0<;>try (cases hk0; done)
   ·cases hk0; simp [Instr.checkKey,z0h hu]
   ·cases hk0; simp [Instr.checkKey,z0h hu]
   ·cases hk0; simp [Instr.checkKey,z0h hu]
   ·rename_i m e
    simp [z64] at hxa; subst hxa
    cases hq:flatK P n e with
    |none=>rw [hq] at hk0; cases hk0
    |some ke=>
    rw [hq] at hk0; simp at hk0; subst hk0
    have hse:=z52 _ _ _ hq
    obtain ⟨ae,hae⟩:=y1i hq
    have:=y6n (P:=P) (w:=w) d em e ke.length ae ke rfl hse hae (y1h hq hae) (fun x xs w hx hk=>ih d (by omega) e ke x xs w hq hx hk) xs m 0
     (by rw [hlen]; simp) (by simpa using hk)
    simp only [Instr.checkKey,Sem.run_bind,z0h hu,Result.andThen_ok]
    rw [Std.Legacy.Range.forIn_eq_forIn_range']
    have hsize:([:m]:Std.Legacy.Range).size=m:=by simp [Std.Legacy.Range.size]
    rw [hsize]
    erw [this]
    simp
   ·rename_i fs
    simp [z64] at hxa; subst hxa
    split at hk0
    ·cases hk0
    ·have:=y6o (P:=P) (w:=w) n d em (fun t ks x xs w hf hx hk=>ih d (by omega) t ks x xs w hf hx hk) fs.toList 0 _ xs hk0 (by simpa using hlen) (by simpa using hk)
     simp only [Instr.checkKey,Sem.run_bind,z0h hu,Result.andThen_ok]
     rw [←Array.forIn_toList]
     erw [this]
     simp
theorem w4b {T:TypeId} {ks:List SK} {a:Bool} (hf:flatK P 8 T=some ks) (ha:z3u P T=some a) {O:Nat→Prop} {x y:D} {vx vy:Value} (hx:z12 O w x vx) (hy:z12 O w y vy) (ex:z10 x=a) (ey:z10 y=a) {b:Bool}
  (hb:z1p std ks (z06 x) (z06 y)=some b):∃ xs ys,z91 P T vx xs∧z91 P T vy ys∧z7v ks xs ys=some b:=by
 have hsz:=z52 _ _ _ hf
 obtain ⟨l1,l2⟩:=y5o ks _ _ _ hb
 obtain ⟨xs,h1,h2,h3⟩:=y5h (P:=P) (T:=T) hx l1 hsz (by rw [ex]; exact ha)
 obtain ⟨ys,g1,g2,g3⟩:=y5h (P:=P) (T:=T) hy l2 hsz (by rw [ey]; exact ha)
 exact ⟨xs,ys,h1,g1,y7p ks _ _ xs ys b hb (h2.trans l1.symm) (g2.trans l2.symm) h3 g3⟩
theorem w8z:∀ (ks:List SK) (xs ys:List Value),z7v ks xs ys=some true→xs=ys∧z5h ks xs:=by
 intro ks
 induction ks with
 |nil=>intro xs ys h; cases xs<;>cases ys<;>simp [z7v] at h; exact ⟨rfl,trivial⟩
 |cons k ks ih=>
  intro xs ys h
  cases xs with
  |nil=>simp [z7v] at h
  |cons x xs=>
   cases ys with
   |nil=>simp [z7v] at h
   |cons y ys=>
    simp only [z7v] at h
    split at h
    ·rename_i a c h1 h2
     simp only [Option.some.injEq,Bool.and_eq_true] at h
     obtain ⟨rfl,rfl⟩:=h
     obtain ⟨e,hk⟩:=ih xs ys h2
     subst e
     cases k
     ·obtain ⟨k,a,c,rfl,rfl,e⟩:=v34 h1
      have:a=c:=by simpa using e.symm
      subst this; exact ⟨rfl,hk⟩
     ·obtain ⟨a,c,rfl,rfl,e⟩:=v35 h1
      have:a=c:=by simpa using e.symm
      subst this; exact ⟨rfl,hk⟩
     ·obtain ⟨a,c,rfl,rfl,e⟩:=v33 h1
      have:a=c:=by
       have e':a.toList=c.toList:=by simpa using e.symm
       rw [ByteArray.toList_eq,ByteArray.toList_eq] at e'
       obtain ⟨⟨x⟩⟩:=a
       obtain ⟨⟨y⟩⟩:=c
       simp at e'; rw [e']
      subst this; exact ⟨rfl,hk⟩
    ·cases h
theorem y8j (n:Nat):∀ (ks:List SK) (xs:List Value),z5h ks xs→∀ v,v= .agg xs.toArray∨xs=[v]→Instr.sameBits (n+2) v v=true:=by
 have one:∀ (m:Nat) (k:SK) (ks:List SK) (x:Value) (xs:List Value),z5h (k::ks) (x::xs)→Instr.sameBits m x x=true∧z5h ks xs:=by
  intro m k ks x xs h
  cases k<;>cases x<;>simp only [z5h] at h
  all_goals exact ⟨by cases m<;>simp [Instr.sameBits,beq_toListBytes],h⟩
 have all:∀ (m:Nat) (ks:List SK) (xs:List Value),z5h ks xs→∀ x∈xs,Instr.sameBits m x x=true:=by
  intro m ks
  induction ks with
  |nil=>intro xs h x hx; cases xs with
   |nil=>cases hx
   |cons _ _=>exact h.elim
  |cons k ks ih=>intro xs h x hx; cases xs with
   |nil=>cases hx
   |cons y ys=>
    obtain ⟨a,b⟩:=one m k ks y ys h
    rcases List.mem_cons.1 hx with rfl|hx
    ·exact a
    ·exact ih ys b x hx
 intro ks xs h v hv
 rcases hv with rfl|rfl
 ·simp only [Instr.sameBits,beq_self_eq_true,Bool.true_and]
  rw [List.all_eq_true]
  intro p hp
  have:p.1=p.2∧p.1∈xs:=by
   obtain ⟨i,hi,e⟩:=List.getElem_of_mem hp
   rw [List.getElem_zip] at e
   rw [←e]; simp
  rw [←this.1]
  exact all _ ks xs h _ this.2
 ·exact all _ ks _ h v (by simp)
theorem z5z {T:TypeId} {v:Value} {xs:List Value} (h:z91 P T v xs) (hv:∀ cs,v≠ .agg cs):xs=[v]:=by
 obtain ⟨a,_,_,h⟩:=h
 cases a with
 |true=>exact absurd h (hv _)
 |false=>simpa using h
theorem y88 {ks:List SK} {x y:Value} {b:Bool} (h:z7v ks [x] [y]=some b):∃ k,eq1 k x y=some b:=by
 cases ks with
 |nil=>simp [z7v] at h
 |cons k ks=>
  simp only [z7v] at h
  split at h
  ·rename_i a c h1 h2
   cases ks with
   |nil=>simp [z7v] at h2; subst h2; cases h; exact ⟨k,by simpa using h1⟩
   |cons _ _=>simp [z7v] at h2
  ·cases h
theorem y6x {ks:List SK} {T:TypeId} {vx vy:Value} {xs ys:List Value} {b c:Bool} (hx:z91 P T vx xs) (hy:z91 P T vy ys) (hb:z7v ks xs ys=some b) {d:TypeDesc} (h:Instr.sameNow d vx vy=some c):c=b:=by
 unfold Instr.sameNow at h
 split at h
 ·rename_i k a k' a'
  split at h
  ·rename_i hkk; subst hkk; cases h
   rw [z5z hx (by simp),z5z hy (by simp)] at hb
   obtain ⟨q,hq⟩:=y88 hb
   cases q<;>simp [eq1] at hq; exact hq
  ·cases h
 ·cases h
  rw [z5z hx (by simp),z5z hy (by simp)] at hb
  obtain ⟨q,hq⟩:=y88 hb
  cases q<;>simp [eq1] at hq
  rw [beq_toListBytes]; exact hq
 ·cases h
  rw [z5z hx (by simp),z5z hy (by simp)] at hb
  obtain ⟨q,hq⟩:=y88 hb
  cases q<;>simp [eq1] at hq; exact hq
 ·cases h
def z97 (O:Nat→Prop) (w:World) (es:List (D×D)) (en:List MapEntry):Prop:=
 en.length=es.length∧∀ (i:Nat) (k x:D),es[i]?=some (k,x)→∃ e:MapEntry,en[i]?=some e∧z12 O w k e.key∧z12 O w x e.val
theorem w8v {T:TypeId} {ks:List SK} {ka:Bool} (hf:flatK P 8 T=some ks) (ha:z3u P T=some ka) {O:Nat→Prop} {k:D} {vk:Value} (hk:z12 O w k vk) (d:TypeDesc):
  ∀ (es:List (D×D)) (en:List MapEntry) (i:Nat) (res:Option (Nat×D)),z97 O w es en→z5j std ks ka k es i=some res→
   ∃ r:Option (Nat×Value),(∀ r',Instr.findNow d vk en i=some r'→r'=r)∧(Instr.findAsking T vk en i).run P w= .ok r w∧
    match res with
    |none=>r=none
    |some (n,x)=>i≤n∧∃ k' e,r=some (n,e.val)∧es[n - i]?=some (k',x)∧en[n - i]?=some e∧z12 O w x e.val∧e.key=vk:=by
 intro es
 induction es with
 |nil=>
  intro en i res hr h
  simp [z5j] at h; subst h
  obtain ⟨hl,_⟩:=hr
  have:en=[]:=by simpa using hl
  subst this
  exact ⟨none,fun r' h=>by simp [Instr.findNow] at h; exact h.symm,by simp [Instr.findAsking],rfl⟩
 |cons p es ih=>
  intro en i res hr h
  obtain ⟨k',x⟩:=p
  obtain ⟨hl,hr⟩:=hr
  cases en with
  |nil=>simp at hl
  |cons e en=>
  obtain ⟨e0,he0,h1,h2⟩:=hr 0 k' x rfl
  simp at he0; subst he0
  simp only [z5j] at h
  cases hc:(z10 k==ka)&&(z10 k'==ka) with
  |false=>rw [hc] at h; cases h
  |true=>
  rw [hc] at h; simp only [cond_true] at h
  simp only [Bool.and_eq_true,beq_iff_eq] at hc
  cases hb:z1p std ks (z06 k) (z06 k') with
  |none=>rw [hb] at h; cases h
  |some b=>
  obtain ⟨xs,ys,hx,hy,hxy⟩:=w4b hf ha hk h1 hc.1 hc.2 hb
  have hrun:=y7m (P:=P) 8 Op.maxDepth (by decide) T ks vk e.key xs ys b w hf hx hy hxy
  have hrun:(Op.equal T vk e.key).run P w= .ok b w:=hrun
  rw [hb] at h
  cases b with
  |true=>
   simp at h; subst h
   obtain ⟨rfl,hkv⟩:=w8z _ _ _ hxy
   have hv:vk=e.key:=by
    obtain ⟨a,ha1,_,hx⟩:=hx
    obtain ⟨a',ha2,_,hy⟩:=hy
    rw [ha1] at ha2; cases ha2
    cases a
    ·simp at hx hy; rw [hx] at hy; simpa using hy
    ·simp at hx hy; rw [hx,hy]
   refine ⟨some (i,e.val),fun r' hr'=>?_,by simp [Instr.findAsking,hrun],Nat.le_refl _,k',e,rfl,by simp,by simp,h2,hv.symm⟩
   simp only [Instr.findNow] at hr'
   cases hsn:Instr.sameNow d vk e.key with
   |none=>rw [hsn] at hr'; cases hr'
   |some c=>
    have:=y6x hx hy hxy hsn
    subst this
    rw [hsn] at hr'; cases hr'; rfl
  |false=>
   simp only at h
   obtain ⟨r,f1,f2,f3⟩:=ih en (i+1) res ⟨by simpa using hl,fun j a c hj=>by
    have:=hr (j+1) a c (by simpa using hj); simpa using this⟩ h
   refine ⟨r,fun r' hr'=>?_,by simp [Instr.findAsking,hrun,f2],?_⟩
   ·simp only [Instr.findNow] at hr'
    cases hsn:Instr.sameNow d vk e.key with
    |none=>rw [hsn] at hr'; cases hr'
    |some c=>
     have:=y6x hx hy hxy hsn
     subst this
     rw [hsn] at hr'; exact f1 r' hr'
   ·cases res with
    |none=>exact f3
    |some q=>
     obtain ⟨n,y⟩:=q
     obtain ⟨g1,k2,e2,g2,g3,g4,g5,g6⟩:=f3
     refine ⟨by omega,k2,e2,g2,?_,?_,g5,g6⟩
     ·rw [show n - i=(n - (i+1))+1 by omega]; simpa using g3
     ·rw [show n - i=(n - (i+1))+1 by omega]; simpa using g4
theorem y7i {T:TypeId} {ks:List SK} {ka:Bool} (hf:flatK P 8 T=some ks) (ha:z3u P T=some ka) {O:Nat→Prop} {k:D} {vk:Value} (hk:z12 O w k vk) {es:List (D×D)} {en:List MapEntry} {res:Option (Nat×D)}
  (hr:z97 O w es en) (h:z5j std ks ka k es 0=some res):
  ∃ r:Option (Nat×Value),(Instr.findKey T vk en).run P w= .ok r w∧
   match res with
   |none=>r=none
   |some (n,x)=>∃ k' e,r=some (n,e.val)∧es[n]?=some (k',x)∧en[n]?=some e∧z12 O w x e.val∧e.key=vk:=by
 obtain ⟨d,hd⟩:∃ d,P.underlying T=some d:=by
  unfold z3u at ha
  cases hu:P.underlying T with
  |none=>simp [hu] at ha
  |some d=>exact ⟨d,rfl⟩
 obtain ⟨r,f1,f2,f3⟩:=w8v hf ha hk d es en 0 res hr h
 refine ⟨r,?_,?_⟩
 ·simp only [Instr.findKey,Sem.run_bind,z0h hd,Result.andThen_ok]
  cases hq:Instr.findNow d vk en 0 with
  |none=>simpa using f2
  |some r'=>have:=f1 r' hq; subst this; simp
 ·cases res with
  |none=>exact f3
  |some q=>
   obtain ⟨n,x⟩:=q
   obtain ⟨_,k',e,g⟩:=f3
   exact ⟨k',e,by simpa using g⟩
def y2w (O:Nat→Prop) (w:World) (es:List (D×D)) (en:Array MapEntry) (vk:Value) (r:Option (Nat×Value)):Option (Nat×D)→Prop
 |none=>r=none
 |some (n,x)=>∃ k' e,r=some (n,e.val)∧es[n]?=some (k',x)∧en[n]?=some e∧z12 O w x e.val∧e.key=vk
theorem z9t {T:TypeId} {ti:TI} (ht:z8m P T ti) (hr:z0c P ρ h w) {m k:AV} {vm vk:Value} (hm:z0t ρ (z0i ρ h) w m vm) (hk:z0t ρ (z0i ρ h) w k vk) {res:Option (Nat×D)} (hf:z3c std ti h m k=some res):
    ∃ (K E:TypeId) (ks:List SK) (ka:Bool) (ez:D),P.underlying T=some (.map K E)∧ti.desc= .map ks ka ez∧x8r P E=some ez∧(∃ d,k= .d d∧z12 (z0i ρ h) w d vk)∧(∀ em,(Instr.checkKey em 10000 K vk).run P w= .ok () w)∧(∀ old,old=vk→∀ w,(Instr.keyThatStays old vk).run P w= .ok vk w)∧
      ((vm= .map none∧res=none∧(Instr.findKey K vk []).run P w= .ok none w)∨
        ∃ id L es en clk,m= .map id∧vm= .map (some L.blk)∧ρ id=some L∧z0j h id= .map es∧w.heap[L.blk]?=some (.map en clk)∧z97 (z0i ρ h) w es en.toList∧∃ r:Option (Nat×Value),(Instr.findKey K vk en.toList).run P w= .ok r w∧
          y2w (z0i ρ h) w es en vk r res):=by
  obtain ⟨d,hd,hda,hkk⟩:=ht.desc
  have hf0:z3c std ti h m k=some res:=hf
  clear hf
  cases hdesc:ti.desc with
  |map ks ka ez=>
   cases k with
   |d kd=>
    have hf:(bif (z10 kd==ka)&&z1n ks (z06 kd) then match m with
      | .d .nilm=>some none
      | .map id=>match z0j h id with
        | .map es=>z5j std ks ka kd es 0
        |_=>none
      |_=>none
      else none)=some res:=by
      unfold z3c at hf0; rw [hdesc] at hf0; exact hf0
    clear hf0
    rw [hdesc] at hkk
    obtain ⟨K,E,rfl,hfl,hag,hz,hg⟩:=hkk
    cases hc:(z10 kd==ka)&&z1n ks (z06 kd) with
    |false=>rw [hc] at hf; cases hf
    |true=>
    rw [hc] at hf; simp only [cond_true] at hf
    simp only [Bool.and_eq_true,beq_iff_eq] at hc
    cases hk with|d hk=>
    have hlen:(z06 kd).length=ks.length:=by
      have:∀ (ks:List SK) (ds:List D),z1n ks ds=true→ds.length=ks.length:=by
        intro ks
        induction ks with
        |nil=>intro ds h; cases ds<;>simp [z1n] at h; rfl
        |cons k ks ih=>
          intro ds h
          cases ds with
          |nil=>cases k<;>simp [z1n] at h
          |cons d ds=>cases k<;>cases d<;>simp [z1n] at h<;>simp [ih ds h]
      exact this _ _ hc.2
    obtain ⟨xs,h1,h2,h3⟩:=y5h (P:=P) (T:=K) hk hlen (z52 _ _ _ hfl) (by rw [hc.1]; exact hag)
    have hkv:=w3w ks _ xs hc.2 (h2.trans hlen.symm) h3
    refine ⟨K,E,ks,ka,ez,hd,rfl,hz,⟨kd,rfl,hk⟩,fun em=>x4e em 8 10000 (by decide) K ks vk xs w hfl h1 hkv,?_,?_⟩
    · intro old ho w'
      subst ho
      have:Instr.sameBits 10000 old old=true:=y8j 9998 ks xs hkv old (by
        obtain ⟨a,_,_,hx⟩:=h1
        cases a
        · exact .inr (by simpa using hx)
        · exact .inl (by simpa using hx))
      simp [Instr.keyThatStays,this]
    · split at hf
      · cases hf
        cases hm with|d hm=>
        cases hm
        refine .inl ⟨rfl,rfl,?_⟩
        obtain ⟨r,f1,f2⟩:=y7i hfl hag hk (es:=[]) (en:=[]) (res:=none) ⟨rfl,by simp⟩ rfl
        simp only at f2; subst f2; exact f1
      · rename_i id
        split at hf
        · rename_i es hob
          cases hm with
          |map _ L hL=>
            obtain ⟨_,ho⟩:=hr.obj id L hL
            rw [hob] at ho
            obtain ⟨en,clk,hcb,hl,hj⟩:=ho
            right
            have hent:z97 (z0i ρ h) w es en.toList:=⟨by simpa using hl.1,fun i k x hi=>by
              obtain ⟨e,he,a,b⟩:=hj i k x hi
              exact ⟨e,by simpa using he,a,b⟩⟩
            obtain ⟨r,f1,f2⟩:=y7i hfl hag hk hent hf
            refine ⟨id,L,es,en,clk,rfl,rfl,hL,hob,hcb,hent,r,f1,?_⟩
            cases res with
            |none=>exact f2
            |some q=>
              obtain ⟨n,x⟩:=q
              obtain ⟨k',e,a,b,c,d⟩:=f2
              exact ⟨k',e,a,b,by simpa using c,d⟩
        · cases hf
      · cases hf
   |_=>unfold z3c at hf0; rw [hdesc] at hf0; cases hf0
  |_=>unfold z3c at hf0; rw [hdesc] at hf0; cases hf0
theorem z2r {b:Nat} {en:Array MapEntry} {clk:Nat} (hb:w.heap[b]?=some (.map en clk)):(getObj b).run P w= .ok (.map en clk) w:=by simp [getObj,Sem.run,hb]
theorem z4v {b:Nat} {en en':Array MapEntry} {clk clk':Nat} (hb:w.heap[b]?=some (.map en clk)):(setObj b (.map en' clk')).run P w= .ok () (World.setObj w b (.map en' clk')):=by
 have:=(Array.getElem?_eq_some_iff.1 hb).1
 simp [setObj,Sem.run,hb,World.setObj]
def y9y (q:Bool) (r:List D) (x:Option (Option (Nat×D))):Prop:=
 (x=some none∧q=false)∨∃ i v v',x=some (some (i,v))∧u1m v v'∧q=true∧r=[.int .i64 (i:Nat),v']
theorem y35 {E:TypeId} {ez:D} (h:x8r P E=some ez) {O:Nat→Prop}:∃ v,(zeroValue E).run P w= .ok v w∧z12 O w ez v:=by
 unfold x8r at h
 cases hi:P.info? E with
 |none=>simp [hi] at h
 |some i=>
  simp [hi] at h
  cases hz:i.zero with
  |none=>simp [hz] at h
  |some z=>
   simp [hz] at h
   refine ⟨z,?_,x58 h O w⟩
   simp [zeroValue,typeInfo,Sem.program,Sem.run,program,hi,hz]
theorem x3o {v:AV} {r:Res} (h:ok v=some r):r=⟨true,v,[]⟩:=by unfold ok at h; cases h; rfl
theorem z71 {T:TypeId} {ti:TI} (ht:z8m P T ti) (hr:z0c P ρ h w) {new:Nat} {m k:AV} {vm vk:Value} (hm:z0t ρ (z0i ρ h) w m vm) (hk:z0t ρ (z0i ρ h) w k vk) {q:Bool} {r:List D} (hw:y9y q r (z3c std ti h m k)) {co:Bool} {res:Res}
  (hs:z4q ti q r co=some res):z0r P ρ h w new (Instr.lookup T vm vk co) res:=by
 have main:∀ (fr:Option (Nat×D)),z3c std ti h m k=some fr→∃ (v:Value) (ok:Bool) (ks:List SK) (ka:Bool) (ez:D),ti.desc= .map ks ka ez∧(Instr.lookup T vm vk co).run P w= .ok (if co then .tuple #[v, .bool ok] else v) w∧
   (match fr with|none=>ok=false∧z12 (z0i ρ h) w ez v|some (_,x)=>ok=true∧z12 (z0i ρ h) w x v):=by
  intro fr hfr
  obtain ⟨K,E,ks,ka,ez,hd,hdesc,hz,_,hck,_,hcase⟩:=z9t ht hr hm hk hfr
  obtain ⟨zv,hzr,hzd⟩:=y35 (P:=P) (w:=w) hz (O:=z0i ρ h)
  rcases hcase with ⟨rfl,rfl,hfk⟩|⟨id,L,es,en,clk,rfl,rfl,hL,hob,hcb,hent,rr,hfk,hres⟩
  ·exact ⟨zv,false,ks,ka,ez,hdesc,by simp [Instr.lookup,z0h hd,hck,hfk,hzr],rfl,hzd⟩
  ·cases fr with
   |none=>
    simp only [y2w] at hres; subst hres
    exact ⟨zv,false,ks,ka,ez,hdesc,by simp [Instr.lookup,z0h hd,z2r hcb,hck,hfk,hzr],rfl,hzd⟩
   |some p=>
    obtain ⟨n,x⟩:=p
    obtain ⟨k',e,rfl,_,_,hx,_⟩:=hres
    exact ⟨e.val,true,ks,ka,ez,hdesc,by simp [Instr.lookup,z0h hd,z2r hcb,hck,hfk],rfl,hx⟩
 have pack:∀ (d:D) (v:Value) (b:Bool),z12 (z0i ρ h) w d v→z0t ρ (z0i ρ h) w (bif co then .tuple [.d d, .d (.bool b)] else .d d) (if co then .tuple #[v, .bool b] else v):=by
  intro d v b hd
  cases co with
  |false=>exact .d hd
  |true=>
   refine .tuple _ _ rfl fun i x hx=>?_
   match i,hx with
   |0,hx=>cases hx; exact .d hd
   |1,hx=>cases hx; exact .d (.bool b)
   |i+2,hx=>simp at hx
 unfold z4q at hs
 split at hs
 ·rename_i ks ka ez hdesc
  rcases hw with ⟨hf,rfl⟩|⟨i,v,v',hf,hle,rfl,rfl⟩
  ·obtain ⟨zv,ok,_,_,ez',hd',hrun,rfl,hz⟩:=main _ hf
   rw [hdesc] at hd'; cases hd'
   simp only at hs; cases x3o hs
   exact z0r.pure hr hrun (pack _ _ _ hz)
  ·obtain ⟨zv,ok,_,_,ez',hd',hrun,rfl,hz⟩:=main _ hf
   simp only at hs; cases x3o hs
   exact z0r.pure hr hrun (pack _ _ _ (hz.le2 hle))
 ·cases hs
theorem z12.ofKeep {O O':Nat→Prop} {w w':World} (k:z5n O O' w w') {es:List (D×D)} {en:List MapEntry} (h:z97 O w es en):z97 O' w' es en:=
 ⟨h.1,fun i a c hi=>let ⟨e,he,x,y⟩:=h.2 i a c hi; ⟨e,he,x.keep k,y.keep k⟩⟩
theorem z0c.born (hr:z0c P ρ h w) {id:Nat} {L:Loc} (hL:ρ id=some L) {es:List (D×D)} (hob:z0j h id= .map es) {en:Array MapEntry} {clk:Nat} (hcb:w.heap[L.blk]?=some (.map en clk)):z3n en clk:=by
 obtain ⟨_,ho⟩:=hr.obj id L hL
 rw [hob] at ho
 obtain ⟨en',clk',hc,hl,_⟩:=ho
 rw [hcb] at hc
 cases hc
 exact hl.2
theorem map_set (hr:z0c P ρ h w) {id:Nat} {L:Loc} (hL:ρ id=some L) {es es':List (D×D)} (hob:z0j h id= .map es) {en:Array MapEntry} {clk:Nat} (hcb:w.heap[L.blk]?=some (.map en clk)) (en':Array MapEntry) (clk':Nat)
  (hrel:z97 (z0i ρ h) w es' en'.toList) (hbn:z3n en' clk') (new:Nat) (x:AV) (v:Value) (hx:∀ ρ O w,z0t ρ O w x v) {s:Sem Value} (hs:s.run P w= .ok v (World.setObj w L.blk (.map en' clk'))):z0r P ρ h w new s ⟨true,x,[(id, .map es')]⟩:=by
 have hlive:(z0j h id).live=true:=by rw [hob]; rfl
 have hbs:∀ m,z1v w L.blk=some m→z1v (World.setObj w L.blk (.map en' clk')) L.blk=some m:=by
  intro m hm; simp [z1v,hcb] at hm
 have hk:=z2a hr hL hlive (.map es') rfl _ hbs
 refine ⟨v,_,ρ,hs,hx _ _ _,hr.set hL hlive _ rfl _ hbs ?_,Ext.set _ hr hL hlive _ rfl _ hbs, .inl rfl⟩
 have:=z12.ofKeep hk hrel
 exact ⟨en',clk',z0z _ _ _ (Array.getElem?_eq_some_iff.1 hcb).1,⟨by simpa using this.1,hbn⟩,fun i k x hi=>by
  obtain ⟨e,he,a,b⟩:=this.2 i k x hi
  exact ⟨e,by simpa using he,a,b⟩⟩
theorem y79 {T:TypeId} {ti:TI} (ht:z8m P T ti) (hr:z0c P ρ h w) {new:Nat} {m k x:AV} {vm vk vx:Value} (hm:z0t ρ (z0i ρ h) w m vm) (hk:z0t ρ (z0i ρ h) w k vk) (hx:z0t ρ (z0i ρ h) w x vx) {q:Bool} {r:List D} (hw:y9y q r (z3c std ti h m k)) {res:Res}
  (hs:z34 std ti h q r m k x=some res):z0r P ρ h w new (z4t (Instr.mapUpdate T vm vk vx)) res:=by
 unfold z34 at hs
 split at hs
 ·rename_i ks ka ez id kd xd hdesc
  split at hs
  ·rename_i es hob
   cases hx with|d hx=>
   cases hk with|d hkd=>
   have go:∀ fr,z3c std ti h (.map id) (.d kd)=some fr→∃ (L:Loc) (en:Array MapEntry) (clk:Nat),ρ id=some L∧w.heap[L.blk]?=some (.map en clk)∧z3n en clk∧z97 (z0i ρ h) w es en.toList∧
     (Instr.mapUpdate T vm vk vx).run P w= .ok () (World.setObj w L.blk (match fr with|none=> .map (en.push { key:=vk,val:=vx,born:=clk }) (clk+1)|some (n,_)=> .map (en.modify n fun e=>{ key:=vk,val:=vx,born:=e.born }) clk))∧(∀ n y,fr=some (n,y)→n<es.length):=by
    intro fr hfr
    obtain ⟨K,E,ks,ka,ez,hd,_,hz,_,hck,hks,hcase⟩:=z9t ht hr hm (.d hkd) hfr
    rcases hcase with ⟨rfl,rfl,hfk⟩|⟨id',L,es',en,clk,e1,rfl,hL,hob',hcb,hent,rr,hfk,hres⟩
    ·cases hm
    ·cases e1
     rw [hob] at hob'; cases hob'
     refine ⟨L,en,clk,hL,hcb,hr.born hL hob hcb,hent,?_,?_⟩
     ·cases fr with
      |none=>
       simp only [y2w] at hres; subst hres
       simp [Instr.mapUpdate,z0h hd,z2r hcb,hck,hfk,z4v hcb]
      |some p=>
       obtain ⟨n,y⟩:=p
       obtain ⟨k',e,rfl,_,he,_,hek⟩:=hres
       have hkk:=hks e.key hek w
       simp [Instr.mapUpdate,z0h hd,z2r hcb,hck,hfk,he,hkk,z4v hcb]
     ·intro n y hn; subst hn
      obtain ⟨k',e,_,he,_⟩:=hres
      exact (List.getElem?_eq_some_iff.1 he).1
   rcases hw with ⟨hf,rfl⟩|⟨i,v,v',hf,hle,rfl,rfl⟩
   ·cases hs
    obtain ⟨L,en,clk,hL,hcb,hbn,hent,hrun,_⟩:=go _ hf
    refine map_set hr hL hob hcb (en.push { key:=vk,val:=vx,born:=clk }) (clk+1) ⟨by simp [std]; simpa using hent.1,fun i a c hi=>?_⟩ (hbn.push _ _) new .bot undef (fun _ _ _=> .bot _) (by simp only [z4t,Sem.run_bind,hrun,Result.andThen_ok,Sem.run_pure])
    simp only [std] at hi
    rw [List.getElem?_append] at hi
    simp only [Array.toList_push]
    rw [List.getElem?_append,hent.1]
    split at hi
    ·rename_i hlt; rw [if_pos hlt]; exact hent.2 i a c hi
    ·rename_i hge
     rw [if_neg hge]
     have:i - es.length=0:=by
      cases hq:i - es.length with
      |zero=>rfl
      |succ n=>rw [hq] at hi; simp at hi
     rw [this] at hi⊢
     simp at hi; obtain ⟨rfl,rfl⟩:=hi
     exact ⟨_,rfl,hkd,hx⟩
   ·cases hs
    obtain ⟨L,en,clk,hL,hcb,hbn,hent,hrun,hlt⟩:=go _ hf
    have hlt:=hlt i v rfl
    refine map_set hr hL hob hcb (en.modify i fun e=>{ key:=vk,val:=vx,born:=e.born }) clk ⟨by simp [std]; simpa using hent.1,fun j a c hj=>?_⟩ (hbn.modify _ _ _) new .bot undef (fun _ _ _=> .bot _) (by simp only [z4t,Sem.run_bind,hrun,Result.andThen_ok,Sem.run_pure])
    simp only [std,Int.toNat_natCast,List.getElem?_set] at hj
    simp only [Array.getElem?_toList,Array.getElem?_modify]
    split at hj
    ·rename_i hij; subst hij
     first|rw [if_pos hlt] at hj|skip
     cases hj
     have:i<en.size:=by rw [←Array.length_toList,hent.1]; exact hlt
     simp only [if_true,Array.getElem?_eq_getElem this,Option.map_some]
     exact ⟨_,rfl,hkd,hx⟩
    ·rename_i hij
     rw [if_neg hij]
     simpa using hent.2 j a c hj
  ·cases hs
 ·cases hs
theorem y8c {T:TypeId} {ti:TI} (ht:z8m P T ti) (hr:z0c P ρ h w) {new:Nat} {m k:AV} {vm vk:Value} (hm:z0t ρ (z0i ρ h) w m vm) (hk:z0t ρ (z0i ρ h) w k vk) {q:Bool} {r:List D} (hw:y9y q r (z3c std ti h m k)) {res:Res} {ts:Array TypeId} {ty:TypeId} (hts:ts[0]?=some T)
  (hs:z35 std ti h q r m=some res):z0r P ρ h w new (Builtin.delete_ ts ty #[vm,vk]) res:=by
 have unit:∀ ρ O w,z0t ρ O w (.tuple []) (.tuple #[]):=fun _ _ _=> .tuple [] #[] rfl (fun i x hx=>by simp at hx)
 unfold z35 at hs
 split at hs
 ·rename_i ks ka ez id hdesc
  split at hs
  ·rename_i es hob
   have go:∀ fr,z3c std ti h (.map id) k=some fr→∃ (L:Loc) (en:Array MapEntry) (clk:Nat),ρ id=some L∧w.heap[L.blk]?=some (.map en clk)∧z3n en clk∧z97 (z0i ρ h) w es en.toList∧
     (Builtin.delete_ ts ty #[vm,vk]).run P w= .ok (.tuple #[]) (World.setObj w L.blk (match fr with|none=> .map en clk|some (n,_)=> .map (en.eraseIdxIfInBounds n) clk)):=by
    intro fr hfr
    obtain ⟨K,E,ks,ka,ez,hd,_,hz,_,hck,hks,hcase⟩:=z9t ht hr hm hk hfr
    rcases hcase with ⟨rfl,rfl,hfk⟩|⟨id',L,es',en,clk,e1,rfl,hL,hob',hcb,hent,rr,hfk,hres⟩
    ·cases hm
    ·cases e1
     rw [hob] at hob'; cases hob'
     refine ⟨L,en,clk,hL,hcb,hr.born hL hob hcb,hent,?_⟩
     cases fr with
     |none=>
      simp only [y2w] at hres; subst hres
      simp [Builtin.delete_,hts,z0h hd,z2r hcb,hck,hfk,z4v hcb]
     |some p=>
      obtain ⟨n,y⟩:=p
      obtain ⟨k',e,rfl,_,he,_,hek⟩:=hres
      simp [Builtin.delete_,hts,z0h hd,z2r hcb,hck,hfk,z4v hcb]
   rcases hw with ⟨hf,rfl⟩|⟨i,v,v',hf,hle,rfl,rfl⟩
   ·cases hs
    obtain ⟨L,en,clk,hL,hcb,hbn,hent,hrun⟩:=go _ hf
    exact map_set hr hL hob hcb _ _ hent hbn new _ _ unit hrun
   ·cases hs
    obtain ⟨L,en,clk,hL,hcb,hbn,hent,hrun⟩:=go _ hf
    have e1:(en.eraseIdxIfInBounds i).toList=en.toList.eraseIdx i:=by
     unfold Array.eraseIdxIfInBounds
     split
     ·simp
     ·rename_i hge; rw [List.eraseIdx_of_length_le (by simpa using hge)]
    refine map_set hr hL hob hcb _ _ ⟨?_,fun j a c hj=>?_⟩ (hbn.erase _) new _ _ unit hrun
    ·simp only [std,Int.toNat_natCast,e1,List.length_eraseIdx,hent.1]
    ·rw [e1]
     simp only [std,Int.toNat_natCast,List.getElem?_eraseIdx] at hj⊢
     split at hj
     ·rename_i hlt; rw [if_pos hlt]; exact hent.2 _ a c hj
     ·rename_i hlt; rw [if_neg hlt]; exact hent.2 _ a c hj
  ·cases hs
 ·cases hs
theorem y6c {T:TypeId} (hr:z0c P ρ h w) {new:Nat} (hn:ρ new=none) {x:Option AV} {v:Option Value} (hxv:x=none→v=none) {res:Res} (hs:z7z new x=some res):z0r P ρ h w new (Instr.makeMap T v) res:=by
 unfold z7z at hs
 split at hs
 ·cases hs
  rw [hxv rfl]
  have hrun:(Instr.makeMap T none).run P w= .ok (.map (some w.heap.size)) (World.push w (.map #[] 0)):=by
   simp [Instr.makeMap,newObj,Sem.run,World.push]
  have hnew:=hr.new hn 0 (.map []) (.map #[] 0) ⟨#[],0,z3o _ _,⟨rfl,z3n.empty _⟩,by simp⟩
  exact ⟨_,_,_,hrun, .map _ _ (Rho.put_same _ _ _),hnew,Ext.new hr hn _ _ _ rfl, .inr ⟨_,List.mem_singleton.2 rfl⟩⟩
 ·cases hs
end
end Go.Am
end
