/- Texts of this claim. -/
import Derived.Test.YtolfgnbldofcjaaT3
import Derived.Shelf.SlSortCmp.WholeK
import Derived.Test.YtolfgnbldofcjaaProg
import Derived.KernelRfl
set_option linter.unusedVariables false
set_option linter.unusedSimpArgs false
set_option linter.unusedSectionVars false
set_option maxRecDepth 100000
set_option maxHeartbeats 0
section
namespace Go.Am
open Go.Proofs Go.Sort Go.Shelf
section
variable {P:Program}
theorem x25 {w w':World} (h1:w'.os=w.os) (h2:w'.tape=w.tape) (h3:w'.output=w.output) (h4:w.heap.size≤w'.heap.size) (h5:∀ b,b<w.heap.size→w'.heap[b]?=w.heap[b]?) (h6:w.drawn≤w'.drawn):
  ∃ q os',w'=grow (w.drewN q) os':=by
 refine ⟨w'.drawn - w.drawn,w'.heap.extract w.heap.size w'.heap.size,?_⟩
 obtain ⟨hp,tp,dr,os,out⟩:=w
 obtain ⟨hp',tp',dr',os',out'⟩:=w'
 simp only at h1 h2 h3 h4 h5 h6
 subst h1 h2 h3
 simp only [grow,World.drewN]
 have e1:hp'=hp++hp'.extract hp.size hp'.size:=by
  apply Array.ext_getElem?
  intro i
  rw [Array.getElem?_append]
  split
  ·rename_i hlt; exact h5 i hlt
  ·rename_i hge
   rw [Array.getElem?_extract]
   split
   ·congr 1; omega
   ·rw [Array.getElem?_eq_none (by omega)]
 have e2:dr'=dr+(dr' - dr):=by omega
 rw [←e1, ←e2]
theorem x8e {w:World} {g:FuncId} {args:Array Value} {xs:List D} {k:IntKind} {n:Int} {h':List AO} (ha:z97 P g (toA xs) [] (.d (.int k n)) h') (hl:args.toList.length=xs.length)
  (hx:∀ (i:Nat) (x:D),xs[i]?=some x→∃ v,args.toList[i]?=some v∧z2c (fun _=>False) w x v):Calls P g args w fun e w'=>e= .returned (.int k n)∧∃ q os',w'=grow (w.drewN q) os':=by
 intro cs
 let ρ0:Rho:=⟨fun _=>none,fun _=>False⟩
 have hown:z0n ρ0 []=fun _=>False:=by
  funext c
  apply propext
  refine ⟨fun h=>?_,False.elim⟩
  rcases h with h|⟨id,L,hL,_⟩
  ·exact h
  ·cases hL
 have hr:z0e P ρ0 [] w:=⟨fun id L hL=>(by cases hL),fun id id' L L' hL=>(by cases hL),fun b hb=>hb.elim,fun id L hL=>(by cases hL)⟩
 obtain ⟨ρ',v,w',fr,s1,s2,s3,s4,s5,s6,s7⟩:=ha.run ρ0 args w cs hr (fun id hid=>absurd rfl hid) ⟨by rw [z1j, ←hl]; simp,fun i x hi=>by
  rw [z2l] at hi
  obtain ⟨d,hd,rfl⟩:=Option.map_eq_some_iff.1 hi
  obtain ⟨v,hv,hr⟩:=hx i d hd
  rw [hown,Array.getD_eq_getD_getElem?]
  have:args[i]?=some v:=by simpa using hv
  rw [this]; exact .d hr⟩
 refine ⟨.returned v,w',fr,⟨?_,x25 s7.os s7.tape s7.output s7.keep.size (fun c hc=>s7.keep.frame c hc ?_) s7.keep.drawn⟩,s1,s2,s3⟩
 ·cases s4 with
  |d h=>cases h; rfl
 ·rw [hown]; exact id
variable {α:Type} [Inhabited α]
def y7f (f:α→Int×Int) (x:α):List Value:=[.int .i64 (f x).1, .int .i64 (f x).2]
def z36 (f:α→Int×Int) (x:α):List D:=[.int .i64 (f x).1, .int .i64 (f x).2]
def y9s (P:Program) (f g:FuncId) (cf:α→α→Int) (tp:α→Int×Int):Prop:=
 ∀ (blk off cap:Nat) (d:Array α) (w:World),CmpLays P g #[] (y7f tp) 2 cf blk off d.size w→HoldsK (y7f tp) 2 w blk off d→blk<w.heap.size→d.size<4611686018427387904→
  Calls P f #[.slice (some ⟨blk,off,none⟩) d.size cap, .func (.func g) #[] #[]] w fun e w'=>
   e= .returned (.tuple #[])∧∃ n os,w'=sortWorldK (y7f tp) 2 w blk off n (pdq (ltOf cf) d 0 d.size (Lib.bitLen d.size) true true) os
theorem x79 {g:FuncId} {cf:α→α→Int} {tp:α→Int×Int} (h:∀ x y,z97 P g (toA [.agg (z36 tp x), .agg (z36 tp y)]) [] (.d (.int .i64 (cf x y))) []) (blk off size:Nat) (w:World):CmpLays P g #[] (y7f tp) 2 cf blk off size w:=by
 intro m os dk hdk x y
 refine x8e (h x y) (by simp) fun i z hz=>?_
 have ag:∀ (O:Nat→Prop) (w:World) (x:α),z2c O w (.agg (z36 tp x)) (.agg (y7f tp x).toArray):=fun O w x=>
  .agg _ _ (by simp [z36,y7f]) fun i d hi=>by
   match i,hi with
   |0,hi=>cases hi; exact .int _ _
   |1,hi=>cases hi; exact .int _ _
   |i+2,hi=>simp [z36] at hi
 match i,hz with
 |0,hz=>cases hz; exact ⟨_,by simp,ag _ _ _⟩
 |1,hz=>cases hz; exact ⟨_,by simp,ag _ _ _⟩
 |i+2,hz=>simp at hz
theorem x1y {tp:α→Int×Int} {d:Array α} {i j:Nat} (hi:i<d.size) (hj:j<2):(Go.Sort.flatK (y7f tp) 2 d)[i*2+j]! =(y7f tp d[i])[j]! :=by
 rw [get_flatK _ _ _ _ (by omega)]
 have e1:(i*2+j) / 2=i:=by omega
 have e2:(i*2+j) % 2=j:=by omega
 rw [e1,e2,getElem!_pos d i hi]
omit [Inhabited α] in
theorem x56 {tp:α→Int×Int} {x:α} {j:Nat} {y:D} (h:(z36 tp x)[j]?=some y):j<2∧∃ n,y= .int .i64 n∧(y7f tp x)[j]! = .int .i64 n:=by
 match j,h with
 |0,h=>cases h; exact ⟨by omega,_,rfl,rfl⟩
 |1,h=>cases h; exact ⟨by omega,_,rfl,rfl⟩
 |j+2,h=>simp [z36] at h
theorem x0z {f g:FuncId} {cf:α→α→Int} {tp:α→Int×Int} (hO:SWO (ltOf cf)) (hS:y9s P f g cf tp) (hcmp:∀ x y,z97 P g (toA [.agg (z36 tp x), .agg (z36 tp y)]) [] (.d (.int .i64 (cf x y))) [])
  {d:Array α} (hd:0<d.size) (hsz:d.size<4611686018427387904) (cap:Option Nat):
  z97 P f [.slice 0 2 0 d.size cap, .clo (.func g) [] []] [.row (d.toList.map (z36 tp))] (.tuple []) [.row ((pdq (ltOf cf) d 0 d.size (Lib.bitLen d.size) true true).toList.map (z36 tp))]:=⟨by
 intro ρ vs w cs hr hdm har
 obtain ⟨hv1,hv2⟩:=har
 have hs1:vs.size=2:=hv1
 obtain ⟨L,cp,hL,hz,hvs0⟩:∃ L cp,ρ 0=some L∧L.esz=2∧vs.getD 0 undef= .slice (some ⟨L.blk,L.base,none⟩) d.size cp:=by
  have hv:=hv2 0 _ rfl
  generalize hq:vs.getD 0 undef=q at hv
  have key:∀ z,z=d.size→z02 ρ (z0n ρ [.row (d.toList.map (z36 tp))]) w (.slice 0 2 0 z cap) q→∃ L cp,ρ 0=some L∧L.esz=2∧q= .slice (some ⟨L.blk,L.base,none⟩) d.size cp:=by
   intro z hz hv
   cases hv with
   |slice _ _ _ _ _ L a c h1 h2 h3 h4 h5=>
    subst hz
    refine ⟨L,c,h1,h2,?_⟩
    rw [h3 (by omega)]; simp
   |nils _ _ _ _ a _=>omega
  exact key _ rfl hv
 have hvs1:vs.getD 1 undef= .func (.func g) #[] #[]:=by
  have hv:=hv2 1 _ rfl
  generalize hq:vs.getD 1 undef=q at hv
  cases hv with
  |clo _ _ _ vf vc hf hc _ _=>
   have e1:vf=#[]:=Array.size_eq_zero_iff.1 (by simpa using hf)
   have e2:vc=#[]:=Array.size_eq_zero_iff.1 (by simpa using hc)
   rw [e1,e2]
 have hvs:vs=#[.slice (some ⟨L.blk,L.base,none⟩) d.size cp, .func (.func g) #[] #[]]:=by
  apply Array.ext (by simpa using hs1)
  intro i h1 h2
  simp only [Array.getD_eq_getD_getElem?] at hvs0 hvs1
  match i,h1,h2 with
  |0,h1,h2=>rw [Array.getElem?_eq_getElem h1] at hvs0; simpa using hvs0
  |1,h1,h2=>rw [Array.getElem?_eq_getElem h1] at hvs1; simpa using hvs1
  |i+2,h1,h2=>simp at h2; omega
 subst hvs
 have hlive:(z0s [AO.row (d.toList.map (z36 tp))] 0).live=true:=rfl
 obtain ⟨hlt,ho⟩:=hr.obj 0 L hL
 obtain ⟨hpos,c,t,hcb,hlen,hcell⟩:=(show z2h P ρ _ w L (.row (d.toList.map (z36 tp))) from ho)
 rw [hz] at hlen hcell
 have hcell':∀ i j,i<d.size→j<2→c[L.base+i*2+j]?=some ((Go.Sort.flatK (y7f tp) 2 d)[i*2+j]!):=by
  intro i j hi hj
  have hri:(d.toList.map (z36 tp))[i]?=some (z36 tp d[i]):=by simp [hi]
  have hx:∃ y,(z36 tp d[i])[j]?=some y:=by
   match j,hj with
   |0,_=>exact ⟨_,rfl⟩
   |1,_=>exact ⟨_,rfl⟩
  obtain ⟨y,hy⟩:=hx
  obtain ⟨v,hv,_,hrel⟩:=hcell i _ j y hri hy
  obtain ⟨_,n,rfl,hn⟩:=x56 hy
  rw [hv,x1y hi hj,hn]
  cases hrel; rfl
 have hidx:∀ q,q<(Go.Sort.flatK (y7f tp) 2 d).size→c[L.base+q]?=some ((Go.Sort.flatK (y7f tp) 2 d)[q]!):=by
  intro q hq
  simp only [size_flatK] at hq
  have:=hcell' (q / 2) (q % 2) (by omega) (by omega)
  have e:q / 2*2+q % 2=q:=by omega
  rw [Nat.add_assoc,e] at this; exact this
 have hH:HoldsK (y7f tp) 2 w L.blk L.base d:=by
  intro q hq
  refine ⟨?_,?_⟩
  ·unfold World.cell?
   simp only [hcb]
   have:=hidx q hq
   simpa using this
  ·unfold World.frozen?
   simp only [hcb]
   simp
 obtain ⟨e,w',fr,⟨rfl,n,os,hw'⟩,hcm,hfn,hlv⟩:=hS L.blk L.base cp d w (x79 hcmp _ _ _ _) hH hlt hsz cs
 generalize hdk:pdq (ltOf cf) d 0 d.size (Lib.bitLen d.size) true true=dk at hw'⊢
 have hdks:dk.size=d.size:=by
  rw [←hdk]
  exact (pdq_sorts (ltOf cf) hO d 0 d.size (Lib.bitLen d.size) true true (Nat.zero_le _) (Nat.le_refl _) (Or.inl rfl)).1.1
 have hr1:=hr.drawn (w.drawn+n) (Nat.le_add_right _ _)
 have hx1:Ext (fun id=>True) ρ [.row (d.toList.map (z36 tp))] w ρ [.row (d.toList.map (z36 tp))] { w with drawn:=w.drawn+n }:=Ext.drawn _ _ _ _ _ (Nat.le_add_right _ _)
 let c':=putCells id L.base (Go.Sort.flatK (y7f tp) 2 dk) c
 have hput:putRowK (y7f tp) 2 (Sort.ahead w n) L.blk L.base dk=World.setObj { w with drawn:=w.drawn+n } L.blk (.cells c' t (0,0)):=by
  unfold putRowK putRow mapBlock World.setObj Sort.ahead
  congr 1
  apply Array.ext_getElem?
  intro b
  simp only [Array.getElem?_modify,Array.getElem?_setIfInBounds]
  by_cases hb:L.blk=b
  ·subst hb
   simp only [if_true,hlt,hcb,Option.map_some,onCells]
   rfl
  ·simp [hb]
 have hc's:c'.size=c.size:=by simp [c',putCells]
 have hbs:∀ k,z1y { w with drawn:=w.drawn+n } L.blk=some k→z1y (World.setObj { w with drawn:=w.drawn+n } L.blk (.cells c' t (0,0))) L.blk=some k:=by
  intro k hk
  rw [z1d (w:={ w with drawn:=w.drawn+n }) hcb] at hk; cases hk
  rw [z1d (z07 { w with drawn:=w.drawn+n } L.blk _ hlt)]
  rw [hc's]
 have hc'get:∀ i j,i<d.size→j<2→c'[L.base+i*2+j]?=some ((Go.Sort.flatK (y7f tp) 2 dk)[i*2+j]!):=by
  intro i j hi hj
  have h1:=hcell' i j hi hj
  have hq:L.base+i*2+j<c.size:=(Array.getElem?_eq_some_iff.1 h1).1
  simp only [c',putCells]
  rw [Array.getElem?_mapIdx,h1]
  simp only [Option.map_some,size_flatK,hdks]
  rw [if_pos (by omega)]
  have e:L.base+i*2+j - L.base=i*2+j:=by omega
  rw [e]; rfl
 have hset:=hr1.set hL hlive (.row (dk.toList.map (z36 tp))) rfl (.cells c' t (0,0)) hbs (by
  refine ⟨hpos,c',t,z07 _ _ _ hlt,fun i r hi=>?_,fun i r j y hi hy=>?_⟩
  ·rw [hz]
   rw [List.getElem?_map] at hi
   obtain ⟨x,_,rfl⟩:=Option.map_eq_some_iff.1 hi
   rfl
  ·rw [hz]
   rw [List.getElem?_map] at hi
   obtain ⟨x,hx,rfl⟩:=Option.map_eq_some_iff.1 hi
   have hil:i<dk.size:=by
    have:=(List.getElem?_eq_some_iff.1 hx).1
    simpa using this
   have hxe:dk[i]=x:=by
    have:=(List.getElem?_eq_some_iff.1 hx).2
    simpa using this
   obtain ⟨hj,m,rfl,hm⟩:=x56 hy
   refine ⟨.int .i64 m,?_,rfl, .int _ _⟩
   rw [hc'get i j (by omega) hj,x1y hil hj,hxe,hm])
 have hext:=Ext.set (fun _=>True) hr1 hL hlive (.row (dk.toList.map (z36 tp))) rfl (.cells c' t (0,0)) hbs
 have hw2:w'=grow (World.setObj { w with drawn:=w.drawn+n } L.blk (.cells c' t (0,0))) os:=by rw [hw']; unfold sortWorldK; rw [hput]
 generalize hwx:World.setObj { w with drawn:=w.drawn+n } L.blk (.cells c' t (0,0))=wx at hset hext hw2
 have hold:∀ b,b<wx.heap.size→(grow wx os).heap[b]?=wx.heap[b]?:=by
  intro b hb
  show (wx.heap++os)[b]?=_
  rw [Array.getElem?_append_left hb]
 have hkg:z5l (z0n ρ (z1t [.row (d.toList.map (z36 tp))] 0 (.row (dk.toList.map (z36 tp))))) (z0n ρ (z1t [.row (d.toList.map (z36 tp))] 0 (.row (dk.toList.map (z36 tp))))) wx (grow wx os):=
  ⟨by show _≤(wx.heap++os).size; simp,fun b hb _=>hold b hb,fun _ _ h=>h,fun b k hb=>by
   have:=y9p hb
   unfold z1y; rw [hold b this]; exact hb,z05.refl _⟩
 have hr3:z0e P ρ [.row (dk.toList.map (z36 tp))] (grow wx os):=hset.of_keep hkg fun b hb=>hold b (y23 hset hb)
 have hx3:Ext (fun _=>True) ρ (z1t [.row (d.toList.map (z36 tp))] 0 (.row (dk.toList.map (z36 tp)))) wx ρ [.row (dk.toList.map (z36 tp))] (grow wx os):=
  ⟨rfl,rfl,rfl,hkg,fun _ _=>rfl,rfl,fun b hb=>hold b (hset.fr b hb)⟩
 subst hw2
 exact ⟨ρ, .tuple #[],_,fr,hcm,hfn,hlv, .tuple [] #[] rfl (fun i x hx=>by simp at hx),hr3,fun id hid=>hdm id hid,((hx1.trans hext).trans hx3).mono fun _ _=>trivial⟩⟩
end
end Go.Am
end
section
namespace M06
def Lt (a b:Pt):Prop:=Pos (sb b a)
def Le (a b:Pt):Prop:=a=b∨Lt a b
theorem Lt.trans {a b c:Pt} (h1:Lt a b) (h2:Lt b c):Lt a c:=by
 simp only [Lt,Pos,sb] at*; omega
theorem Lt.irrefl {a:Pt} (h:Lt a a):False:=by
 simp only [Lt,Pos,sb] at h; omega
theorem Lt.asymm {a b:Pt} (h:Lt a b) (k:Lt b a):False:=(h.trans k).irrefl
theorem Lt.ne {a b:Pt} (h:Lt a b):a≠b:=by rintro rfl; exact h.irrefl
theorem x1o (a b:Pt):Lt a b∨a=b∨Lt b a:=by
 obtain ⟨a1,a2⟩:=a; obtain ⟨b1,b2⟩:=b
 simp only [Lt,Pos,sb,Prod.mk.injEq]; omega
theorem w48 (a b:Pt):cr a b a=0:=by simp only [cr,crs,sb]; grind
theorem x6h (a b:Pt):cr a b b=0:=by simp only [cr,crs,sb]; grind
theorem y00 (a b c:Pt):cr a c b= - cr a b c:=by simp only [cr,crs,sb]; grind
theorem y9g (s t x:Pt):crs (sb t x) (sb t s)=cr s t x:=by simp only [cr,crs,sb]; grind
theorem w49 (t p x:Pt):crs (sb t x) (sb p t)=cr t p x:=by simp only [cr,crs,sb]; grind
theorem x6i (s t p:Pt):crs (sb t s) (sb p t)=cr s t p:=by simp only [cr,crs,sb]; grind
theorem v5i (s t c p:Pt):cr s t p=cr s t c+crs (sb t s) (sb p c):=by simp only [cr,crs,sb]; grind
def Cov:List Pt→Pt→Prop
 |[],_=>False
 |[t],x=>x=t
 |t::s::r,x=>x=t∨(Lt s x∧Lt x t∧0≤cr s t x)∨Cov (s::r) x
def Conv:List Pt→Prop
 |t::s::r::l=>0<cr r s t∧Conv (s::r::l)
 |_=>True
def w56:List Pt→Pt→Prop
 |t::s::r,x=>(0≤cr s t x∧(cr s t x=0→Le s x∧Le x t))∧w56 (s::r) x
 |_,_=>True
def v7h:List Pt→Pt→Prop
 |t::s::r,x=>0<cr s t x∧v7h (s::r) x
 |_,_=>True
def x23:List Pt→Prop
 |t::s::r=>Lt s t∧x23 (s::r)
 |_=>True
def pop (p:Pt):List Pt→List Pt
 |t::s::r=>if cr s t p≤0 then pop p (s::r) else t::s::r
 |l=>l
termination_by l=>l.length
def push (st:List Pt) (p:Pt):List Pt:=p::pop p st
theorem Conv.tail {t:Pt} {l:List Pt} (h:Conv (t::l)):Conv l:=by
 match l,h with
 |[],_=>trivial
 |[_],_=>trivial
 |_::_::_,h=>exact h.2
theorem x23.tail {t:Pt} {l:List Pt} (h:x23 (t::l)):x23 l:=by
 match l,h with
 |[],_=>trivial
 |_::_,h=>exact h.2
theorem w56.tail {t:Pt} {l:List Pt} {x:Pt} (h:w56 (t::l) x):w56 l x:=by
 match l,h with
 |[],_=>trivial
 |_::_,h=>exact h.2
theorem w5a {p t s:Pt} {r:List Pt} {x:Pt} (h1:Lt s t) (h2:Lt t p) (hc:cr s t p≤0) (h:Cov (p::t::s::r) x):Cov (p::s::r) x:=by
 have hsp:Lt s p:=h1.trans h2
 rcases h with h|⟨a,b,c⟩|h|⟨a,b,c⟩|h
 ·exact .inl h
 ·refine .inr (.inl ⟨h1.trans a,b,?_⟩)
  have e1:0≤crs (sb p x) (sb p t):=by rw [y9g]; exact c
  have e2:0≤crs (sb p t) (sb p s):=by rw [y9g,y00]; omega
  have:=z9g (show Pos (sb p x) from b) (show Pos (sb p t) from h2) (show Pos (sb p s) from hsp) e1 e2
  rw [y9g] at this; exact this
 ·subst h
  refine .inr (.inl ⟨h1,h2,?_⟩)
  rw [y00]; omega
 ·refine .inr (.inl ⟨a,b.trans h2,?_⟩)
  have e1:0≤crs (sb p s) (sb t s):=by
   have:crs (sb p s) (sb t s)=cr s p t:=rfl
   rw [this,y00]; omega
  exact z9g (show Pos (sb p s) from hsp) (show Pos (sb t s) from h1) (show Pos (sb x s) from a) e1 c
 ·exact .inr (.inr h)
structure x8t (q:List Pt) (st:List Pt):Prop where
 desc:x23 st
 conv:Conv st
 cov:∀ x∈q,Cov st x
 edge:∀ x∈q,w56 st x
 sub:∀ y∈st,y∈q
theorem y2k (p:Pt) {t s:Pt} {r:List Pt} (h:cr s t p≤0):pop p (t::s::r)=pop p (s::r):=by
 rw [pop]; simp [h]
theorem y2j (p:Pt) {t s:Pt} {r:List Pt} (h:¬ cr s t p≤0):pop p (t::s::r)=t::s::r:=by
 rw [pop]; simp [h]
theorem y44 (p t:Pt):pop p [t]=[t]:=by rw [pop]; simp
theorem w0a {p:Pt}:∀ {st:List Pt},x23 (p::st)→Conv st→(∀ t s r,st=t::s::r→0<cr s t p)→v7h st p
 |[],_,_,_=>trivial
 |[_],_,_,_=>trivial
 |[t,s],_,_,h=>⟨h t s [] rfl,trivial⟩
 |t::s::r::l,hd,hc,h=>by
  have h1:=h t s _ rfl
  refine ⟨h1,w0a (st:=s::r::l) ⟨hd.2.1.trans hd.1,hd.2.2⟩ hc.2 ?_⟩
  intro t' s' r' e
  cases e
  have a:=hc.1
  have e1:0<crs (sb s r) (sb t s):=by rw [x6i]; exact a
  have e2:0<crs (sb t s) (sb p t):=by rw [x6i]; exact h1
  have:=z23 (show Pos (sb s r) from hd.2.2.1) (show Pos (sb t s) from hd.2.1) (show Pos (sb p t) from hd.1) (by omega) (by omega) (.inl e1)
  rw [v5i r s t p]; omega
theorem w6y {t:Pt}:∀ {l:List Pt} {x:Pt},x23 (t::l)→Cov (t::l) x→Le x t
 |[],x,_,h=> .inl h
 |s::r,x,hd,h=>by
  rcases h with h|⟨_,b,_⟩|h
  ·exact .inl h
  ·exact .inr b
  ·rcases w6y hd.2 h with h|h
   ·exact .inr (h▸hd.1)
   ·exact .inr (h.trans hd.1)
theorem x2i {q:List Pt} {p:Pt}:∀ (st:List Pt),st≠[]→x23 (p::st)→Conv st→(∀ x∈q,Cov (p::st) x)→(∀ x∈q,w56 st x)→
  ∃ t r,pop p st=t::r∧x23 (p::t::r)∧Conv (p::t::r)∧(∀ x∈q,Cov (p::t::r) x)∧(∀ x∈q,w56 (t::r) x)∧(∀ y∈t::r,y∈st)∧(∀ t' s' r',t::r=t'::s'::r'→0<cr s' t' p)
 |[t],_,hd,hc,hv,he=>⟨t,[],y44 p t,hd,trivial,hv,he,fun y h=>h,fun _ _ _ e=>by cases e⟩
 |t::s::r,_,hd,hc,hv,he=>by
  by_cases h:cr s t p≤0
  ·obtain ⟨t',r',g1,g2,g3,g4,g5,g6,g7⟩:=x2i (s::r) (by simp) ⟨hd.2.1.trans hd.1,hd.2.2⟩ hc.tail (fun x hx=>w5a hd.2.1 hd.1 h (hv x hx)) (fun x hx=>(he x hx).tail)
   exact ⟨t',r',by rw [y2k p h]; exact g1,g2,g3,g4,g5,fun y hy=>List.mem_cons_of_mem _ (g6 y hy),g7⟩
  ·refine ⟨t,s::r,y2j p h,hd,⟨by omega,hc⟩,hv,he,fun y h=>h,fun _ _ _ e=>by cases e; omega⟩
theorem x18 {p:Pt}:∀ {st:List Pt},v7h st p→w56 st p
 |[],_=>trivial
 |[_],_=>trivial
 |t::s::r,h=>⟨⟨by have:=h.1; omega,fun e=>by have:=h.1; omega⟩,x18 h.2⟩
theorem x8b {q st:List Pt} (hne:st≠[]) (h:x8t q st) {p:Pt} (hp:∀ x∈q,Lt x p):x8t (q++[p]) (push st p):=by
 have hdp:x23 (p::st):=by
  match st,hne,h with
  |t::r,_,h=>exact ⟨hp t (h.sub t (by simp)),h.desc⟩
 have hcv:∀ x∈q,Cov (p::st) x:=by
  intro x hx
  match st,hne,h.cov x hx with
  |t::r,_,hc=>exact .inr (.inr hc)
 obtain ⟨t,r,g1,g2,g3,g4,g5,g6,g7⟩:=x2i st hne hdp h.conv hcv h.edge
 have hps:push st p=p::t::r:=by rw [push,g1]
 rw [hps]
 have hl:v7h (t::r) p:=w0a g2 g3.tail g7
 have htq:t∈q:=h.sub t (g6 t (by simp))
 refine ⟨g2,g3,fun x hx=>?_,fun x hx=>?_,fun y hy=>?_⟩
 ·rcases List.mem_append.1 hx with hx|hx
  ·exact g4 x hx
  ·simp at hx; subst hx; exact .inl rfl
 ·rcases List.mem_append.1 hx with hx|hx
  ·refine ⟨?_,g5 x hx⟩
   rcases g4 x hx with e|⟨a,b,c⟩|hc
   ·subst e; exact ⟨by rw [x6h]; omega,fun _=>⟨.inr g2.1, .inl rfl⟩⟩
   ·exact ⟨c,fun _=>⟨.inr a, .inr b⟩⟩
   ·
    rcases w6y g2.2 hc with e|hlt
    ·subst e; exact ⟨by rw [w48]; omega,fun _=>⟨.inl rfl, .inr g2.1⟩⟩
    ·match r,g2,g5 x hx,g7,hc with
     |[],_,_,_,hc=>exact absurd hc hlt.ne
     |s::r,g2,ge,g7,_=>
      have e1:0≤crs (sb t x) (sb t s):=by rw [y9g]; exact ge.1.1
      have e2:0<crs (sb t s) (sb p t):=by rw [x6i]; exact g7 t s r rfl
      have:=z23 (show Pos (sb t x) from hlt) (show Pos (sb t s) from g2.2.1) (show Pos (sb p t) from g2.1) e1 (by omega) (.inr e2)
      rw [w49] at this
      exact ⟨by omega,fun e=>by omega⟩
  ·simp at hx; subst hx
   exact ⟨⟨by rw [x6h]; omega,fun _=>⟨.inr g2.1, .inl rfl⟩⟩,x18 hl⟩
 ·rcases List.mem_cons.1 hy with e|hy
  ·subst e; simp
  ·exact List.mem_append.2 (.inl (h.sub y (g6 y hy)))
theorem w12 (p:Pt):x8t [p] [p]:=⟨trivial,trivial,fun x hx=>(by simpa using hx:x=p),fun x hx=>trivial,fun y hy=>hy⟩
theorem y7p:∀ (l q st:List Pt),st≠[]→x8t q st→(∀ x∈q,∀ y∈l,Lt x y)→l.Pairwise Lt→x8t (q++l) (l.foldl push st)∧l.foldl push st≠[]
 |[],q,st,hne,h,_,_=>by simpa using ⟨h,hne⟩
 |p::l,q,st,hne,h,hq,hl=>by
  have h1:=x8b hne h (fun x hx=>hq x hx p (by simp))
  have:=y7p l (q++[p]) (push st p) (by simp [push]) h1 (fun x hx y hy=>by
   rcases List.mem_append.1 hx with hx|hx
   ·exact hq x hx y (List.mem_cons_of_mem _ hy)
   ·simp at hx; subst hx; exact (List.pairwise_cons.1 hl).1 y hy) (List.pairwise_cons.1 hl).2
  simpa using this
end M06
end
noncomputable section
namespace Go.Am
def y9c:Ctr:=
 ⟨109,[.full 0 2, .int .i64, .int .i64, .clo 87 [] []],[.row [ci,ci]],[]⟩
def v60:Prim→Tup (y9c).scs→Option (STup (scss (y9c).outs)):=
 fun _ _=>none
theorem x74:z3e Go.Proofs.Try.prog 109:=enters_auto (b:=_) rfl (by kernel_rfl)
theorem v1x:CtrOk Go.Proofs.Try.prog y9c (v60 std):=⟨x74,fun x y h=>by cases h⟩
def y9a:Ctr:=
 ⟨110,[.full 0 2, .int .i64, .int .i64, .clo 87 [] []],[.row [ci,ci]],[]⟩
def v6y:Prim→Tup (y9a).scs→Option (STup (scss (y9a).outs)):=
 fun _ _=>none
theorem x72:z3e Go.Proofs.Try.prog 110:=enters_auto (b:=_) rfl (by kernel_rfl)
theorem v1v:CtrOk Go.Proofs.Try.prog y9a (v6y std):=⟨x72,fun x y h=>by cases h⟩
def y88:Ctr:=
 ⟨111,[.full 0 2, .int .i64, .int .i64, .clo 87 [] []],[.row [ci,ci]],[]⟩
def v6w:Prim→Tup (y88).scs→Option (STup (scss (y88).outs)):=
 fun _ _=>none
theorem x70:z3e Go.Proofs.Try.prog 111:=enters_auto (b:=_) rfl (by kernel_rfl)
theorem v1t:CtrOk Go.Proofs.Try.prog y88 (v6w std):=⟨x70,fun x y h=>by cases h⟩
def w1l:Ctr:=
 ⟨117,[.int .u64],[],[(.ret,⟨[(0, .int .i64)],[],1⟩)]⟩
def v3a:List LA:=
 []
def v3k:List JA:=
 [⟨117,[true,false,true,true],0,[(AX.normal,⟨[(0, .int .u64),(2, .int .i64)],[],25⟩)]⟩,
 ⟨117,[true,false,true],0,[(AX.normal,⟨[(0, .int .u64),(2, .int .i64)],[],25⟩)]⟩,
 ⟨117,[true,false,true,true,true],0,[(AX.normal,⟨[(0, .int .u64),(2, .int .i64)],[],25⟩)]⟩]
def w9c:List CF:=
 []
def v5x:Anns:=
 ⟨w9c,v3k,[]⟩
def v0y:(p:Prim)→T1→Option T0:=
 fun p x=>
 opt.bnd T4 _ (
 opt.run T4 (
 opt.ask _ (p.cmp .geq x.1 (4294967296:Int)) (
 opt.need _ (p.cmp .geq (32:Int) (0:Int))<|
 opt.ret _ ((p.ar .shr .u64 x.1 (32:Int)),((32:Int),()))) (
 opt.ret _ (x.1,((0:Int),()))))) fun a=>
 opt.bnd T4 _ (
 opt.run T4 (
 opt.ask _ (p.cmp .geq a.1 (65536:Int)) (
 opt.need _ (p.cmp .geq (16:Int) (0:Int))<|
 opt.ret _ ((p.ar .shr .u64 a.1 (16:Int)),((p.ar .add .i64 a.2.1 (16:Int)),()))) (
 opt.ret _ (a.1,(a.2.1,()))))) fun b=>
 opt.bnd T4 _ (
 opt.run T4 (
 opt.ask _ (p.cmp .geq b.1 (256:Int)) (
 opt.need _ (p.cmp .geq (8:Int) (0:Int))<|
 opt.ret _ ((p.ar .shr .u64 b.1 (8:Int)),((p.ar .add .i64 b.2.1 (8:Int)),()))) (
 opt.ret _ (b.1,(b.2.1,()))))) fun c=>
 opt.need _ (bif (p.cmp .geq (p.cvt .u8 c.1) (0:Int)) then (p.cmp .lss (p.cvt .u8 c.1) (p.ofNat 256)) else Bool.false)<|
 opt.ret _ ((p.ar .add .i64 c.2.1 (p.cvt .i64 (p.byte (ByteArray.mk #[0,1,2,2,3,3,3,3,4,4,4,4,4,4,4,4,5,5,5,5,5,5,5,5,5,5,5,5,5,5,5,5,6,6,6,6,6,6,6,6,6,6,6,6,6,6,6,6,6,6,6,6,6,6,6,6,6,6,6,6,6,6,6,6,7,7,7,7,7,7,7,7,7,7,7,7,7,7,7,7,7,7,7,7,7,7,7,7,7,7,7,7,7,7,7,7,7,7,7,7,7,7,7,7,7,7,7,7,7,7,7,7,7,7,7,7,7,7,7,7,7,7,7,7,7,7,7,7,8,8,8,8,8,8,8,8,8,8,8,8,8,8,8,8,8,8,8,8,8,8,8,8,8,8,8,8,8,8,8,8,8,8,8,8,8,8,8,8,8,8,8,8,8,8,8,8,8,8,8,8,8,8,8,8,8,8,8,8,8,8,8,8,8,8,8,8,8,8,8,8,8,8,8,8,8,8,8,8,8,8,8,8,8,8,8,8,8,8,8,8,8,8,8,8,8,8,8,8,8,8,8,8,8,8,8,8,8,8,8,8,8,8,8,8,8,8,8,8,8,8,8,8,8,8,8,8]) (p.cvt .u8 c.1)))),())
theorem v1r:CtrOk PG w1l (v0y std):=okF (a:=v5x) (l:=v3a) (gN) (by kernel_rfl) fun _ _=>by kernel_rfl
def w1p:Ctr:=
 ⟨105,[.int .u64],[],[(.ret,⟨[(0, .int .i64)],[],1⟩)]⟩
def v3e:List LA:=
 []
def v3o:List JA:=
 []
def w9g:List CF:=
 [⟨w1l,v0y⟩]
def v52:Anns:=
 ⟨w9g,v3o,[]⟩
def w53:(p:Prim)→T1→Option T0:=
 fun p x=>
 opt.bnd T0 _ (v0y p (x.1,())) fun a=>
 opt.ret _ (a.1,())
theorem v11:CtrOk PG w1p (w53 std):=okF (a:=v52) (l:=v3e) (gC v1r (gN)) (by kernel_rfl) fun _ _=>by kernel_rfl
def w1n:Ctr:=
 ⟨108,[.full 0 2, .int .i64, .int .i64, .clo 87 [] []],[.row [ci,ci]],[(.ret,⟨[(0, .tuple [])],[.row [ci,ci]],1⟩)]⟩
def v3c:List LA:=
 [⟨108,[false,true],1,⟨⟨[(0, .full 0 2),(1, .int .i64),(2, .int .i64),(3, .clo 87 [] []),(8, .int .i64)],[.row [ci,ci]],53⟩,[((AX.exit 0),⟨[],[.row [ci,ci]],53⟩)]⟩⟩,
 ⟨108,[false,true,false,false,true,false,false,true],1,⟨⟨[(0, .full 0 2),(1, .int .i64),(2, .int .i64),(3, .clo 87 [] []),(8, .int .i64),(9, .int .i64)],[.row [ci,ci]],53⟩,[((AX.exit 2),⟨[(0, .full 0 2),(1, .int .i64),(2, .int .i64),(3, .clo 87 [] []),(8, .int .i64)],[.row [ci,ci]],53⟩)]⟩⟩]
def v3m:List JA:=
 []
def w9e:List CF:=
 [⟨v4o,G87⟩]
def v5z:Anns:=
 ⟨w9e,v3m,[]⟩
def z7i (it:It) (p:Prim):(LD×T10)→Option ((LD×T10)⊕(LD×T7)):=
 fun a=>opt.run _ (
 opt.ask _ (p.cmp .gtr a.2.2.2.2.1 a.2.1) (
 opt.need _ (bif (p.cmp .geq a.2.2.2.2.1 (0:Int)) then (p.cmp .lss a.2.2.2.2.1 (p.ofNat (p.len a.1))) else Bool.false)<|
 opt.need _ (p.rowOk a.1 (p.add 0 (p.nat a.2.2.2.2.1)) [ci,ci])<|
 opt.need _ (bif (p.cmp .geq (p.ar .sub .i64 a.2.2.2.2.1 (1:Int)) (0:Int)) then (p.cmp .lss (p.ar .sub .i64 a.2.2.2.2.1 (1:Int)) (p.ofNat (p.len a.1))) else Bool.false)<|
 opt.need _ (p.rowOk a.1 (p.add 0 (p.nat (p.ar .sub .i64 a.2.2.2.2.1 (1:Int)))) [ci,ci])<|
 opt.bnd T0 _ (g87 it p ((p.rdI a.1 (p.add 0 (p.nat a.2.2.2.2.1)) 0),((p.rdI a.1 (p.add 0 (p.nat a.2.2.2.2.1)) 1),((p.rdI a.1 (p.add 0 (p.nat (p.ar .sub .i64 a.2.2.2.2.1 (1:Int)))) 0),((p.rdI a.1 (p.add 0 (p.nat (p.ar .sub .i64 a.2.2.2.2.1 (1:Int)))) 1),()))))) fun b=>
 opt.ask _ (p.cmp .lss b.1 (0:Int)) (
 opt.need _ (bif (p.cmp .geq (p.ar .sub .i64 a.2.2.2.2.1 (1:Int)) (0:Int)) then (p.cmp .lss (p.ar .sub .i64 a.2.2.2.2.1 (1:Int)) (p.ofNat (p.len a.1))) else Bool.false)<|
 opt.need _ (p.rowOk a.1 (p.add 0 (p.nat (p.ar .sub .i64 a.2.2.2.2.1 (1:Int)))) [ci,ci])<|
 opt.need _ (bif (p.cmp .geq a.2.2.2.2.1 (0:Int)) then (p.cmp .lss a.2.2.2.2.1 (p.ofNat (p.len a.1))) else Bool.false)<|
 opt.need _ (p.rowOk a.1 (p.add 0 (p.nat a.2.2.2.2.1)) [ci,ci])<|
 opt.need _ (bif (p.cmp .geq a.2.2.2.2.1 (0:Int)) then (p.cmp .lss a.2.2.2.2.1 (p.ofNat (p.len a.1))) else Bool.false)<|
 opt.need _ (p.rowOk a.1 (p.add 0 (p.nat a.2.2.2.2.1)) [ci,ci])<|
 opt.need _ (bif (p.cmp .geq (p.ar .sub .i64 a.2.2.2.2.1 (1:Int)) (0:Int)) then (p.cmp .lss (p.ar .sub .i64 a.2.2.2.2.1 (1:Int)) (p.ofNat (p.len a.1))) else Bool.false)<|
 opt.need _ (p.rowOk (p.set a.1 (p.add 0 (p.nat a.2.2.2.2.1)) [(D.int .i64 (p.rdI a.1 (p.add 0 (p.nat (p.ar .sub .i64 a.2.2.2.2.1 (1:Int)))) 0)),(D.int .i64 (p.rdI a.1 (p.add 0 (p.nat (p.ar .sub .i64 a.2.2.2.2.1 (1:Int)))) 1))]) (p.add 0 (p.nat (p.ar .sub .i64 a.2.2.2.2.1 (1:Int)))) [ci,ci])<|
 opt.need _ (p.eqN 0 0)<|
 opt.need _ (p.eqN (p.len a.1) (p.len (p.set (p.set a.1 (p.add 0 (p.nat a.2.2.2.2.1)) [(D.int .i64 (p.rdI a.1 (p.add 0 (p.nat (p.ar .sub .i64 a.2.2.2.2.1 (1:Int)))) 0)),(D.int .i64 (p.rdI a.1 (p.add 0 (p.nat (p.ar .sub .i64 a.2.2.2.2.1 (1:Int)))) 1))]) (p.add 0 (p.nat (p.ar .sub .i64 a.2.2.2.2.1 (1:Int)))) [(D.int .i64 (p.rdI a.1 (p.add 0 (p.nat a.2.2.2.2.1)) 0)),(D.int .i64 (p.rdI a.1 (p.add 0 (p.nat a.2.2.2.2.1)) 1))])))<|
 opt.need _ (p.eqN (p.len a.1) (p.len (p.set (p.set a.1 (p.add 0 (p.nat a.2.2.2.2.1)) [(D.int .i64 (p.rdI a.1 (p.add 0 (p.nat (p.ar .sub .i64 a.2.2.2.2.1 (1:Int)))) 0)),(D.int .i64 (p.rdI a.1 (p.add 0 (p.nat (p.ar .sub .i64 a.2.2.2.2.1 (1:Int)))) 1))]) (p.add 0 (p.nat (p.ar .sub .i64 a.2.2.2.2.1 (1:Int)))) [(D.int .i64 (p.rdI a.1 (p.add 0 (p.nat a.2.2.2.2.1)) 0)),(D.int .i64 (p.rdI a.1 (p.add 0 (p.nat a.2.2.2.2.1)) 1))])))<|
 opt.ret _ (Sum.inl ((p.set (p.set a.1 (p.add 0 (p.nat a.2.2.2.2.1)) [(D.int .i64 (p.rdI a.1 (p.add 0 (p.nat (p.ar .sub .i64 a.2.2.2.2.1 (1:Int)))) 0)),(D.int .i64 (p.rdI a.1 (p.add 0 (p.nat (p.ar .sub .i64 a.2.2.2.2.1 (1:Int)))) 1))]) (p.add 0 (p.nat (p.ar .sub .i64 a.2.2.2.2.1 (1:Int)))) [(D.int .i64 (p.rdI a.1 (p.add 0 (p.nat a.2.2.2.2.1)) 0)),(D.int .i64 (p.rdI a.1 (p.add 0 (p.nat a.2.2.2.2.1)) 1))]),(a.2.1,(a.2.2.1,(a.2.2.2.1,((p.ar .sub .i64 a.2.2.2.2.1 (1:Int)),()))))))) (
 opt.need _ (p.eqN 0 0)<|
 opt.need _ (p.eqN (p.len a.1) (p.len a.1))<|
 opt.need _ (p.eqN (p.len a.1) (p.len a.1))<|
 opt.ret _ (Sum.inr (a.1,(a.2.1,(a.2.2.1,(a.2.2.2.1,()))))))) (
 opt.need _ (p.eqN 0 0)<|
 opt.need _ (p.eqN (p.len a.1) (p.len a.1))<|
 opt.need _ (p.eqN (p.len a.1) (p.len a.1))<|
 opt.ret _ (Sum.inr (a.1,(a.2.1,(a.2.2.1,(a.2.2.2.1,())))))))
def z9k (it:It) (p:Prim):(LD×T7)→Option ((LD×T7)⊕(LD×Unit)):=
 fun a=>opt.run _ (
 opt.ask _ (p.cmp .lss a.2.2.2.1 a.2.2.1) (
 opt.need _ (p.eqN 0 0)<|
 opt.need _ (p.eqN (p.len a.1) (p.len a.1))<|
 opt.need _ (p.eqN (p.len a.1) (p.len a.1))<|
 opt.bnd ((LD×T7)) _ (
 it _ _ (z7i it p) (a.1,(a.2.1,(a.2.2.1,(a.2.2.2.1,(a.2.2.2.1,())))))) fun b=>
 opt.need _ (p.eqN 0 0)<|
 opt.need _ (p.eqN (p.len b.1) (p.len b.1))<|
 opt.need _ (p.eqN (p.len b.1) (p.len b.1))<|
 opt.ret _ (Sum.inl (b.1,(b.2.1,(b.2.2.1,((p.ar .add .i64 b.2.2.2.1 (1:Int)),())))))) (
 opt.ret _ (Sum.inr (a.1,()))))
def w0m (it:It):(p:Prim)→(LD×T3)→Option ((LD×Unit)):=
 fun p x=>
 opt.need _ (p.eqN 0 0)<|
 opt.need _ (p.eqN (p.len x.1) (p.len x.1))<|
 opt.need _ (p.eqN (p.len x.1) (p.len x.1))<|
 opt.bnd ((LD×Unit)) _ (
 it _ _ (z9k it p) (x.1,(x.2.1,(x.2.2.1,((p.ar .add .i64 x.2.1 (1:Int)),()))))) fun a=>
 opt.ret _ (a.1,())
def w2t:=w0m it0
theorem v1z:CtrOk PG w1n (w2t std):=okF (a:=v5z) (l:=v3c) (gC u1h (gN)) (by kernel_rfl) fun _ _=>by kernel_rfl
def w1r:Ctr:=
 ⟨104,[.full 0 2, .int .i64, .int .i64, .int .i64, .clo 87 [] []],[.row [ci,ci]],[(.ret,⟨[(0, .tuple [])],[.row [ci,ci]],1⟩)]⟩
def v3g:List LA:=
 [⟨104,[false,true,true],1,⟨⟨[(0, .full 0 2),(1, .int .i64),(2, .int .i64),(3, .int .i64),(4, .clo 87 [] []),(10, .bool),(11, .bool)],[.row [ci,ci]],148⟩,[(AX.ret,⟨[],[.row [ci,ci]],148⟩)]⟩⟩]
def v3q:List JA:=
 []
def w9i:List CF:=
 [⟨y88,v6w⟩,⟨y9a,v6y⟩,⟨y9c,v60⟩,⟨w1n,w2t⟩]
def v56:Anns:=
 ⟨w9i,v3q,[]⟩
def y5p (it:It) (p:Prim):(LD×T28)→Option ((LD×T28)⊕(LD×Unit)):=
 fun a=>opt.run _ (
 opt.ask _ (p.cmp .leq (p.ar .sub .i64 a.2.2.1 a.2.1) (12:Int)) (
 opt.need _ (p.eqN 0 0)<|
 opt.need _ (p.eqN (p.len a.1) (p.len a.1))<|
 opt.need _ (p.eqN (p.len a.1) (p.len a.1))<|
 opt.bnd ((LD×Unit)) _ (w0m it p (a.1,(a.2.1,(a.2.2.1,())))) fun b=>
 opt.ret _ (Sum.inr (b.1,()))) (
 opt.ask _ (p.cmp .eql a.2.2.2.1 (0:Int)) (
 opt.need _ (p.eqN 0 0)<|
 opt.need _ (p.eqN (p.len a.1) (p.len a.1))<|
 opt.need _ (p.eqN (p.len a.1) (p.len a.1))<|
 opt.no _ 81) (
 opt.ask _ (bif a.2.2.2.2.1 then Bool.false else Bool.true) (
 opt.need _ (p.eqN 0 0)<|
 opt.need _ (p.eqN (p.len a.1) (p.len a.1))<|
 opt.need _ (p.eqN (p.len a.1) (p.len a.1))<|
 opt.no _ 81) (
 opt.need _ (p.eqN 0 0)<|
 opt.need _ (p.eqN (p.len a.1) (p.len a.1))<|
 opt.need _ (p.eqN (p.len a.1) (p.len a.1))<|
 opt.no _ 81))))
def w0o (it:It):(p:Prim)→(LD×T7)→Option ((LD×Unit)):=
 fun p x=>
 opt.need _ (p.eqN 0 0)<|
 opt.need _ (p.eqN (p.len x.1) (p.len x.1))<|
 opt.need _ (p.eqN (p.len x.1) (p.len x.1))<|
 opt.bnd ((LD×Unit)) _ (
 it _ _ (y5p it p) (x.1,(x.2.1,(x.2.2.1,(x.2.2.2.1,(Bool.true,(Bool.true,()))))))) fun a=>
 opt.ret _ (a.1,())
def v6r:=w0o it0
theorem v13:CtrOk PG w1r (v6r std):=okF (a:=v56) (l:=v3g) (gC v1t (gC v1v (gC v1x (gC v1z (gN))))) (by kernel_rfl) fun _ _=>by kernel_rfl
def w1i:Ctr:=
 ⟨97,[.full 0 2, .clo 87 [] []],[.row [ci,ci]],[(.ret,⟨[(0, .tuple [])],[.row [ci,ci]],1⟩)]⟩
def v28:List LA:=
 []
def v3i:List JA:=
 []
def w89:List CF:=
 [⟨w1r,v6r⟩,⟨w1p,w53⟩]
def v5v:Anns:=
 ⟨w89,v3i,[]⟩
def w0k (it:It):(p:Prim)→(LD×Unit)→Option ((LD×Unit)):=
 fun p x=>
 opt.bnd T0 _ (w53 p ((p.cvt .u64 (p.ofNat (p.len x.1))),())) fun a=>
 opt.need _ (p.eqN 0 0)<|
 opt.need _ (p.eqN (p.len x.1) (p.len x.1))<|
 opt.need _ (p.eqN (p.len x.1) (p.len x.1))<|
 opt.bnd ((LD×Unit)) _ (w0o it p (x.1,((0:Int),((p.ofNat (p.len x.1)),(a.1,()))))) fun b=>
 opt.ret _ (b.1,())
def w5z:=w0k it0
theorem w6g:CtrOk PG w1i (w5z std):=okF (a:=v5v) (l:=v28) (gC v13 (gC v11 (gN))) (by kernel_rfl) fun _ _=>by kernel_rfl
end Go.Am
end
noncomputable section
namespace Go.Am
def y9b:Ctr:=
 ⟨109,[.vec 0 2, .int .i64, .int .i64, .clo 98 [] []],[.row [ci,ci]],[]⟩
def v6z:Prim→Tup (y9b).scs→Option (STup (scss (y9b).outs)):=
 fun _ _=>none
theorem x73:z3e Go.Proofs.Try.prog 109:=enters_auto (b:=_) rfl (by kernel_rfl)
theorem v1w:CtrOk Go.Proofs.Try.prog y9b (v6z std):=⟨x73,fun x y h=>by cases h⟩
def y89:Ctr:=
 ⟨110,[.vec 0 2, .int .i64, .int .i64, .clo 98 [] []],[.row [ci,ci]],[]⟩
def v6x:Prim→Tup (y89).scs→Option (STup (scss (y89).outs)):=
 fun _ _=>none
theorem x71:z3e Go.Proofs.Try.prog 110:=enters_auto (b:=_) rfl (by kernel_rfl)
theorem v1u:CtrOk Go.Proofs.Try.prog y89 (v6x std):=⟨x71,fun x y h=>by cases h⟩
def y87:Ctr:=
 ⟨111,[.vec 0 2, .int .i64, .int .i64, .clo 98 [] []],[.row [ci,ci]],[]⟩
def v6v:Prim→Tup (y87).scs→Option (STup (scss (y87).outs)):=
 fun _ _=>none
theorem x7z:z3e Go.Proofs.Try.prog 111:=enters_auto (b:=_) rfl (by kernel_rfl)
theorem v1s:CtrOk Go.Proofs.Try.prog y87 (v6v std):=⟨x7z,fun x y h=>by cases h⟩
def w1k:Ctr:=
 ⟨117,[.int .u64],[],[(.ret,⟨[(0, .int .i64)],[],1⟩)]⟩
def v29:List LA:=
 []
def v3j:List JA:=
 [⟨117,[true,false,true,true],0,[(AX.normal,⟨[(0, .int .u64),(2, .int .i64)],[],25⟩)]⟩,
 ⟨117,[true,false,true],0,[(AX.normal,⟨[(0, .int .u64),(2, .int .i64)],[],25⟩)]⟩,
 ⟨117,[true,false,true,true,true],0,[(AX.normal,⟨[(0, .int .u64),(2, .int .i64)],[],25⟩)]⟩]
def w9b:List CF:=
 []
def v5w:Anns:=
 ⟨w9b,v3j,[]⟩
def v0x:(p:Prim)→T1→Option T0:=
 fun p x=>
 opt.bnd T4 _ (
 opt.run T4 (
 opt.ask _ (p.cmp .geq x.1 (4294967296:Int)) (
 opt.need _ (p.cmp .geq (32:Int) (0:Int))<|
 opt.ret _ ((p.ar .shr .u64 x.1 (32:Int)),((32:Int),()))) (
 opt.ret _ (x.1,((0:Int),()))))) fun a=>
 opt.bnd T4 _ (
 opt.run T4 (
 opt.ask _ (p.cmp .geq a.1 (65536:Int)) (
 opt.need _ (p.cmp .geq (16:Int) (0:Int))<|
 opt.ret _ ((p.ar .shr .u64 a.1 (16:Int)),((p.ar .add .i64 a.2.1 (16:Int)),()))) (
 opt.ret _ (a.1,(a.2.1,()))))) fun b=>
 opt.bnd T4 _ (
 opt.run T4 (
 opt.ask _ (p.cmp .geq b.1 (256:Int)) (
 opt.need _ (p.cmp .geq (8:Int) (0:Int))<|
 opt.ret _ ((p.ar .shr .u64 b.1 (8:Int)),((p.ar .add .i64 b.2.1 (8:Int)),()))) (
 opt.ret _ (b.1,(b.2.1,()))))) fun c=>
 opt.need _ (bif (p.cmp .geq (p.cvt .u8 c.1) (0:Int)) then (p.cmp .lss (p.cvt .u8 c.1) (p.ofNat 256)) else Bool.false)<|
 opt.ret _ ((p.ar .add .i64 c.2.1 (p.cvt .i64 (p.byte (ByteArray.mk #[0,1,2,2,3,3,3,3,4,4,4,4,4,4,4,4,5,5,5,5,5,5,5,5,5,5,5,5,5,5,5,5,6,6,6,6,6,6,6,6,6,6,6,6,6,6,6,6,6,6,6,6,6,6,6,6,6,6,6,6,6,6,6,6,7,7,7,7,7,7,7,7,7,7,7,7,7,7,7,7,7,7,7,7,7,7,7,7,7,7,7,7,7,7,7,7,7,7,7,7,7,7,7,7,7,7,7,7,7,7,7,7,7,7,7,7,7,7,7,7,7,7,7,7,7,7,7,7,8,8,8,8,8,8,8,8,8,8,8,8,8,8,8,8,8,8,8,8,8,8,8,8,8,8,8,8,8,8,8,8,8,8,8,8,8,8,8,8,8,8,8,8,8,8,8,8,8,8,8,8,8,8,8,8,8,8,8,8,8,8,8,8,8,8,8,8,8,8,8,8,8,8,8,8,8,8,8,8,8,8,8,8,8,8,8,8,8,8,8,8,8,8,8,8,8,8,8,8,8,8,8,8,8,8,8,8,8,8,8,8,8,8,8,8,8,8,8,8,8,8,8,8,8,8,8,8]) (p.cvt .u8 c.1)))),())
theorem v1q:CtrOk PG w1k (v0x std):=okF (a:=v5w) (l:=v29) (gN) (by kernel_rfl) fun _ _=>by kernel_rfl
def w1o:Ctr:=
 ⟨105,[.int .u64],[],[(.ret,⟨[(0, .int .i64)],[],1⟩)]⟩
def v3d:List LA:=
 []
def v3n:List JA:=
 []
def w9f:List CF:=
 [⟨w1k,v0x⟩]
def v51:Anns:=
 ⟨w9f,v3n,[]⟩
def w52:(p:Prim)→T1→Option T0:=
 fun p x=>
 opt.bnd T0 _ (v0x p (x.1,())) fun a=>
 opt.ret _ (a.1,())
theorem v10:CtrOk PG w1o (w52 std):=okF (a:=v51) (l:=v3d) (gC v1q (gN)) (by kernel_rfl) fun _ _=>by kernel_rfl
def w1m:Ctr:=
 ⟨108,[.vec 0 2, .int .i64, .int .i64, .clo 98 [] []],[.row [ci,ci]],[(.ret,⟨[(0, .tuple [])],[.row [ci,ci]],1⟩)]⟩
def v3b:List LA:=
 [⟨108,[false,true],1,⟨⟨[(0, .vec 0 2),(1, .int .i64),(2, .int .i64),(3, .clo 98 [] []),(8, .int .i64)],[.row [ci,ci]],53⟩,[((AX.exit 0),⟨[],[.row [ci,ci]],53⟩)]⟩⟩,
 ⟨108,[false,true,false,false,true,false,false,true],1,⟨⟨[(0, .vec 0 2),(1, .int .i64),(2, .int .i64),(3, .clo 98 [] []),(8, .int .i64),(9, .int .i64)],[.row [ci,ci]],53⟩,[((AX.exit 2),⟨[(0, .vec 0 2),(1, .int .i64),(2, .int .i64),(3, .clo 98 [] []),(8, .int .i64)],[.row [ci,ci]],53⟩)]⟩⟩]
def v3l:List JA:=
 []
def w9d:List CF:=
 [⟨w9y,G98⟩]
def v5y:Anns:=
 ⟨w9d,v3l,[]⟩
def z9l (p:Prim):(LD×T10)→Option ((LD×T10)⊕(LD×T7)):=
 fun a=>opt.run _ (
 opt.ask _ (p.cmp .gtr a.2.2.2.2.1 a.2.1) (
 opt.need _ (bif (p.cmp .geq a.2.2.2.2.1 (0:Int)) then (p.cmp .lss a.2.2.2.2.1 (p.ofNat (p.len a.1))) else Bool.false)<|
 opt.need _ (p.rowOk a.1 (p.add 0 (p.nat a.2.2.2.2.1)) [ci,ci])<|
 opt.need _ (bif (p.cmp .geq (p.ar .sub .i64 a.2.2.2.2.1 (1:Int)) (0:Int)) then (p.cmp .lss (p.ar .sub .i64 a.2.2.2.2.1 (1:Int)) (p.ofNat (p.len a.1))) else Bool.false)<|
 opt.need _ (p.rowOk a.1 (p.add 0 (p.nat (p.ar .sub .i64 a.2.2.2.2.1 (1:Int)))) [ci,ci])<|
 opt.bnd T0 _ (G98 p ((p.rdI a.1 (p.add 0 (p.nat a.2.2.2.2.1)) 0),((p.rdI a.1 (p.add 0 (p.nat a.2.2.2.2.1)) 1),((p.rdI a.1 (p.add 0 (p.nat (p.ar .sub .i64 a.2.2.2.2.1 (1:Int)))) 0),((p.rdI a.1 (p.add 0 (p.nat (p.ar .sub .i64 a.2.2.2.2.1 (1:Int)))) 1),()))))) fun b=>
 opt.ask _ (p.cmp .lss b.1 (0:Int)) (
 opt.need _ (bif (p.cmp .geq (p.ar .sub .i64 a.2.2.2.2.1 (1:Int)) (0:Int)) then (p.cmp .lss (p.ar .sub .i64 a.2.2.2.2.1 (1:Int)) (p.ofNat (p.len a.1))) else Bool.false)<|
 opt.need _ (p.rowOk a.1 (p.add 0 (p.nat (p.ar .sub .i64 a.2.2.2.2.1 (1:Int)))) [ci,ci])<|
 opt.need _ (bif (p.cmp .geq a.2.2.2.2.1 (0:Int)) then (p.cmp .lss a.2.2.2.2.1 (p.ofNat (p.len a.1))) else Bool.false)<|
 opt.need _ (p.rowOk a.1 (p.add 0 (p.nat a.2.2.2.2.1)) [ci,ci])<|
 opt.need _ (bif (p.cmp .geq a.2.2.2.2.1 (0:Int)) then (p.cmp .lss a.2.2.2.2.1 (p.ofNat (p.len a.1))) else Bool.false)<|
 opt.need _ (p.rowOk a.1 (p.add 0 (p.nat a.2.2.2.2.1)) [ci,ci])<|
 opt.need _ (bif (p.cmp .geq (p.ar .sub .i64 a.2.2.2.2.1 (1:Int)) (0:Int)) then (p.cmp .lss (p.ar .sub .i64 a.2.2.2.2.1 (1:Int)) (p.ofNat (p.len a.1))) else Bool.false)<|
 opt.need _ (p.rowOk (p.set a.1 (p.add 0 (p.nat a.2.2.2.2.1)) [(D.int .i64 (p.rdI a.1 (p.add 0 (p.nat (p.ar .sub .i64 a.2.2.2.2.1 (1:Int)))) 0)),(D.int .i64 (p.rdI a.1 (p.add 0 (p.nat (p.ar .sub .i64 a.2.2.2.2.1 (1:Int)))) 1))]) (p.add 0 (p.nat (p.ar .sub .i64 a.2.2.2.2.1 (1:Int)))) [ci,ci])<|
 opt.need _ (p.eqN 0 0)<|
 opt.need _ (p.eqN (p.len a.1) (p.len (p.set (p.set a.1 (p.add 0 (p.nat a.2.2.2.2.1)) [(D.int .i64 (p.rdI a.1 (p.add 0 (p.nat (p.ar .sub .i64 a.2.2.2.2.1 (1:Int)))) 0)),(D.int .i64 (p.rdI a.1 (p.add 0 (p.nat (p.ar .sub .i64 a.2.2.2.2.1 (1:Int)))) 1))]) (p.add 0 (p.nat (p.ar .sub .i64 a.2.2.2.2.1 (1:Int)))) [(D.int .i64 (p.rdI a.1 (p.add 0 (p.nat a.2.2.2.2.1)) 0)),(D.int .i64 (p.rdI a.1 (p.add 0 (p.nat a.2.2.2.2.1)) 1))])))<|
 opt.ret _ (Sum.inl ((p.set (p.set a.1 (p.add 0 (p.nat a.2.2.2.2.1)) [(D.int .i64 (p.rdI a.1 (p.add 0 (p.nat (p.ar .sub .i64 a.2.2.2.2.1 (1:Int)))) 0)),(D.int .i64 (p.rdI a.1 (p.add 0 (p.nat (p.ar .sub .i64 a.2.2.2.2.1 (1:Int)))) 1))]) (p.add 0 (p.nat (p.ar .sub .i64 a.2.2.2.2.1 (1:Int)))) [(D.int .i64 (p.rdI a.1 (p.add 0 (p.nat a.2.2.2.2.1)) 0)),(D.int .i64 (p.rdI a.1 (p.add 0 (p.nat a.2.2.2.2.1)) 1))]),(a.2.1,(a.2.2.1,(a.2.2.2.1,((p.ar .sub .i64 a.2.2.2.2.1 (1:Int)),()))))))) (
 opt.need _ (p.eqN 0 0)<|
 opt.need _ (p.eqN (p.len a.1) (p.len a.1))<|
 opt.ret _ (Sum.inr (a.1,(a.2.1,(a.2.2.1,(a.2.2.2.1,()))))))) (
 opt.need _ (p.eqN 0 0)<|
 opt.need _ (p.eqN (p.len a.1) (p.len a.1))<|
 opt.ret _ (Sum.inr (a.1,(a.2.1,(a.2.2.1,(a.2.2.2.1,())))))))
def z9j (it:It) (p:Prim):(LD×T7)→Option ((LD×T7)⊕(LD×Unit)):=
 fun a=>opt.run _ (
 opt.ask _ (p.cmp .lss a.2.2.2.1 a.2.2.1) (
 opt.need _ (p.eqN 0 0)<|
 opt.need _ (p.eqN (p.len a.1) (p.len a.1))<|
 opt.bnd ((LD×T7)) _ (
 it _ _ (z9l p) (a.1,(a.2.1,(a.2.2.1,(a.2.2.2.1,(a.2.2.2.1,())))))) fun b=>
 opt.need _ (p.eqN 0 0)<|
 opt.need _ (p.eqN (p.len b.1) (p.len b.1))<|
 opt.ret _ (Sum.inl (b.1,(b.2.1,(b.2.2.1,((p.ar .add .i64 b.2.2.2.1 (1:Int)),())))))) (
 opt.ret _ (Sum.inr (a.1,()))))
def w0l (it:It):(p:Prim)→(LD×T3)→Option ((LD×Unit)):=
 fun p x=>
 opt.need _ (p.eqN 0 0)<|
 opt.need _ (p.eqN (p.len x.1) (p.len x.1))<|
 opt.bnd ((LD×Unit)) _ (
 it _ _ (z9j it p) (x.1,(x.2.1,(x.2.2.1,((p.ar .add .i64 x.2.1 (1:Int)),()))))) fun a=>
 opt.ret _ (a.1,())
def w2s:=w0l it0
theorem v1y:CtrOk PG w1m (w2s std):=okF (a:=v5y) (l:=v3b) (gC v7o (gN)) (by kernel_rfl) fun _ _=>by kernel_rfl
def w1q:Ctr:=
 ⟨104,[.vec 0 2, .int .i64, .int .i64, .int .i64, .clo 98 [] []],[.row [ci,ci]],[(.ret,⟨[(0, .tuple [])],[.row [ci,ci]],1⟩)]⟩
def v3f:List LA:=
 [⟨104,[false,true,true],1,⟨⟨[(0, .vec 0 2),(1, .int .i64),(2, .int .i64),(3, .int .i64),(4, .clo 98 [] []),(10, .bool),(11, .bool)],[.row [ci,ci]],148⟩,[(AX.ret,⟨[],[.row [ci,ci]],148⟩)]⟩⟩]
def v3p:List JA:=
 []
def w9h:List CF:=
 [⟨y87,v6v⟩,⟨y89,v6x⟩,⟨y9b,v6z⟩,⟨w1m,w2s⟩]
def v54:Anns:=
 ⟨w9h,v3p,[]⟩
def y5o (it:It) (p:Prim):(LD×T28)→Option ((LD×T28)⊕(LD×Unit)):=
 fun a=>opt.run _ (
 opt.ask _ (p.cmp .leq (p.ar .sub .i64 a.2.2.1 a.2.1) (12:Int)) (
 opt.need _ (p.eqN 0 0)<|
 opt.need _ (p.eqN (p.len a.1) (p.len a.1))<|
 opt.bnd ((LD×Unit)) _ (w0l it p (a.1,(a.2.1,(a.2.2.1,())))) fun b=>
 opt.ret _ (Sum.inr (b.1,()))) (
 opt.ask _ (p.cmp .eql a.2.2.2.1 (0:Int)) (
 opt.need _ (p.eqN 0 0)<|
 opt.need _ (p.eqN (p.len a.1) (p.len a.1))<|
 opt.no _ 81) (
 opt.ask _ (bif a.2.2.2.2.1 then Bool.false else Bool.true) (
 opt.need _ (p.eqN 0 0)<|
 opt.need _ (p.eqN (p.len a.1) (p.len a.1))<|
 opt.no _ 81) (
 opt.need _ (p.eqN 0 0)<|
 opt.need _ (p.eqN (p.len a.1) (p.len a.1))<|
 opt.no _ 81))))
def w0n (it:It):(p:Prim)→(LD×T7)→Option ((LD×Unit)):=
 fun p x=>
 opt.need _ (p.eqN 0 0)<|
 opt.need _ (p.eqN (p.len x.1) (p.len x.1))<|
 opt.bnd ((LD×Unit)) _ (
 it _ _ (y5o it p) (x.1,(x.2.1,(x.2.2.1,(x.2.2.2.1,(Bool.true,(Bool.true,()))))))) fun a=>
 opt.ret _ (a.1,())
def v6q:=w0n it0
theorem v12:CtrOk PG w1q (v6q std):=okF (a:=v54) (l:=v3f) (gC v1s (gC v1u (gC v1w (gC v1y (gN))))) (by kernel_rfl) fun _ _=>by kernel_rfl
def w1h:Ctr:=
 ⟨97,[.vec 0 2, .clo 98 [] []],[.row [ci,ci]],[(.ret,⟨[(0, .tuple [])],[.row [ci,ci]],1⟩)]⟩
def v27:List LA:=
 []
def v3h:List JA:=
 []
def w88:List CF:=
 [⟨w1q,v6q⟩,⟨w1o,w52⟩]
def v5u:Anns:=
 ⟨w88,v3h,[]⟩
def x7t (it:It):(p:Prim)→(LD×Unit)→Option ((LD×Unit)):=
 fun p x=>
 opt.bnd T0 _ (w52 p ((p.cvt .u64 (p.ofNat (p.len x.1))),())) fun a=>
 opt.need _ (p.eqN 0 0)<|
 opt.need _ (p.eqN (p.len x.1) (p.len x.1))<|
 opt.bnd ((LD×Unit)) _ (w0n it p (x.1,((0:Int),((p.ofNat (p.len x.1)),(a.1,()))))) fun b=>
 opt.ret _ (b.1,())
def w5y:=x7t it0
theorem w6f:CtrOk PG w1h (w5y std):=okF (a:=v5u) (l:=v27) (gC v12 (gC v10 (gN))) (by kernel_rfl) fun _ _=>by kernel_rfl
end Go.Am
end
section
namespace Go.Proofs
open Go.RowKit Go.Sort Go.Shelf
def x3z:Go.Shelf.Ren:=⟨fun|57=>123|46=>118|48=>120|47=>119|50=>122|49=>121|29=>117|28=>116|27=>115|26=>114|25=>113|24=>112|23=>111|22=>110|21=>109|20=>108|14=>104|15=>105|6=>97|n=>n,fun|77=>172|76=>171|66=>165|70=>169|9=>9|5=>5|55=>164|53=>162|50=>159|45=>154|46=>155|4=>4|0=>0|39=>149|3=>3|25=>131|24=>86|22=>82|n=>n,fun|n=>n⟩
theorem x5p : Go.Proofs.SlLaysF0.n6 Try.prog x3z :=
  { mixed := by kernel_rfl,
    f6 := by first | exact ⟨Try.f97.name, by decide, Try.func97.trans (congrArg some (by kernel_rfl))⟩ | exact Try.func97.trans (congrArg some (by kernel_rfl)),
    f14 := by first | exact ⟨Try.f104.name, by decide, Try.func104.trans (congrArg some (by kernel_rfl))⟩ | exact Try.func104.trans (congrArg some (by kernel_rfl)),
    f15 := by first | exact ⟨Try.f105.name, by decide, Try.func105.trans (congrArg some (by kernel_rfl))⟩ | exact Try.func105.trans (congrArg some (by kernel_rfl)),
    f20 := by first | exact ⟨Try.f108.name, by decide, Try.func108.trans (congrArg some (by kernel_rfl))⟩ | exact Try.func108.trans (congrArg some (by kernel_rfl)),
    f21 := by first | exact ⟨Try.f109.name, by decide, Try.func109.trans (congrArg some (by kernel_rfl))⟩ | exact Try.func109.trans (congrArg some (by kernel_rfl)),
    f22 := by first | exact ⟨Try.f110.name, by decide, Try.func110.trans (congrArg some (by kernel_rfl))⟩ | exact Try.func110.trans (congrArg some (by kernel_rfl)),
    f23 := by first | exact ⟨Try.f111.name, by decide, Try.func111.trans (congrArg some (by kernel_rfl))⟩ | exact Try.func111.trans (congrArg some (by kernel_rfl)),
    f24 := by first | exact ⟨Try.f112.name, by decide, Try.func112.trans (congrArg some (by kernel_rfl))⟩ | exact Try.func112.trans (congrArg some (by kernel_rfl)),
    f25 := by first | exact ⟨Try.f113.name, by decide, Try.func113.trans (congrArg some (by kernel_rfl))⟩ | exact Try.func113.trans (congrArg some (by kernel_rfl)),
    f26 := by first | exact ⟨Try.f114.name, by decide, Try.func114.trans (congrArg some (by kernel_rfl))⟩ | exact Try.func114.trans (congrArg some (by kernel_rfl)),
    f27 := by first | exact ⟨Try.f115.name, by decide, Try.func115.trans (congrArg some (by kernel_rfl))⟩ | exact Try.func115.trans (congrArg some (by kernel_rfl)),
    f28 := by first | exact ⟨Try.f116.name, by decide, Try.func116.trans (congrArg some (by kernel_rfl))⟩ | exact Try.func116.trans (congrArg some (by kernel_rfl)),
    f29 := by first | exact ⟨Try.f117.name, by decide, Try.func117.trans (congrArg some (by kernel_rfl))⟩ | exact Try.func117.trans (congrArg some (by kernel_rfl)),
    f46 := by first | exact ⟨Try.f118.name, by decide, Try.func118.trans (congrArg some (by kernel_rfl))⟩ | exact Try.func118.trans (congrArg some (by kernel_rfl)),
    f47 := by first | exact ⟨Try.f119.name, by decide, Try.func119.trans (congrArg some (by kernel_rfl))⟩ | exact Try.func119.trans (congrArg some (by kernel_rfl)),
    f48 := by first | exact ⟨Try.f120.name, by decide, Try.func120.trans (congrArg some (by kernel_rfl))⟩ | exact Try.func120.trans (congrArg some (by kernel_rfl)),
    f49 := by first | exact ⟨Try.f121.name, by decide, Try.func121.trans (congrArg some (by kernel_rfl))⟩ | exact Try.func121.trans (congrArg some (by kernel_rfl)),
    f50 := by first | exact ⟨Try.f122.name, by decide, Try.func122.trans (congrArg some (by kernel_rfl))⟩ | exact Try.func122.trans (congrArg some (by kernel_rfl)),
    f57 := by first | exact ⟨Try.f123.name, by decide, Try.func123.trans (congrArg some (by kernel_rfl))⟩ | exact Try.func123.trans (congrArg some (by kernel_rfl)),
    t0 := by exact Try.underlying0,
    a0 := by exact Try.isAgg0,
    z0 := by exact Try.sizeOf0,
    v0 := by exact Try.zeroValue0,
    t3 := by exact Try.underlying3,
    a3 := by exact Try.isAgg3,
    z3 := by exact Try.sizeOf3,
    v3 := by exact Try.zeroValue3,
    t4 := by exact Try.underlying4,
    a4 := by exact Try.isAgg4,
    z4 := by exact Try.sizeOf4,
    v4 := by exact Try.zeroValue4,
    t5 := by exact Try.underlying5,
    a5 := by exact Try.isAgg5,
    z5 := by exact Try.sizeOf5,
    v5 := by exact Try.zeroValue5,
    t9 := by exact Try.underlying9,
    a9 := by exact Try.isAgg9,
    z9 := by exact Try.sizeOf9,
    v9 := by exact Try.zeroValue9,
    t22 := by exact Try.underlying82,
    a22 := by exact Try.isAgg82,
    z22 := by exact Try.sizeOf82,
    v22 := by exact Try.zeroValue82,
    t25 := by exact Try.underlying131,
    a25 := by exact Try.isAgg131,
    z25 := by exact Try.sizeOf131,
    v25 := by exact Try.zeroValue131,
    t39 := by exact Try.underlying149,
    a39 := by exact Try.isAgg149,
    z39 := by exact Try.sizeOf149,
    v39 := by exact Try.zeroValue149,
    t45 := by exact Try.underlying154,
    a45 := by exact Try.isAgg154,
    z45 := by exact Try.sizeOf154,
    v45 := by exact Try.zeroValue154,
    t46 := by exact Try.underlying155,
    a46 := by exact Try.isAgg155,
    z46 := by exact Try.sizeOf155,
    v46 := by exact Try.zeroValue155,
    t50 := by exact Try.underlying159,
    a50 := by exact Try.isAgg159,
    z50 := by exact Try.sizeOf159,
    v50 := by exact Try.zeroValue159,
    t53 := by exact Try.underlying162,
    a53 := by exact Try.isAgg162,
    z53 := by exact Try.sizeOf162,
    v53 := by exact Try.zeroValue162,
    t55 := by exact Try.underlying164,
    a55 := by exact Try.isAgg164,
    z55 := by exact Try.sizeOf164,
    v55 := by exact Try.zeroValue164,
    t66 := by exact Try.underlying165,
    a66 := by exact Try.isAgg165,
    z66 := by exact Try.sizeOf165,
    v66 := by exact Try.zeroValue165,
    t70 := by exact Try.underlying169,
    a70 := by exact Try.isAgg169,
    z70 := by exact Try.sizeOf169,
    v70 := by exact Try.zeroValue169,
    t76 := by exact Try.underlying171,
    a76 := by exact Try.isAgg171,
    z76 := by exact Try.sizeOf171,
    v76 := by exact Try.zeroValue171,
    t77 := by exact Try.underlying172,
    a77 := by exact Try.isAgg172,
    z77 := by exact Try.sizeOf172,
    v77 := by exact Try.zeroValue172 }
end Go.Proofs
namespace Go.Am
open Go.Proofs Go.Sort Go.Shelf M06
theorem x4e {a b:Int}:x2g a b<0↔a<b:=by unfold x2g; omega
theorem w11 {a b:Int}:x2g a b≠0↔a≠b:=by unfold x2g; omega
theorem y8q {α:Type} {cf:α→α→Int} {x y:α}:ltOf cf x y=true↔cf x y<0:=decide_eq_true_iff
theorem w3t {x y:Int×Int}:x3q x y<0↔Lt x y:=by
 simp only [Lt,Pos,sb]
 unfold x3q
 by_cases h:x.1=y.1
 ·have:¬ x2g x.1 y.1≠0:=by rw [w11]; omega
  rw [if_neg this,x4e]; omega
 ·have:x2g x.1 y.1≠0:=by rw [w11]; omega
  rw [if_pos this,x4e]; omega
theorem z85 {x y:Int×Int}:ltOf x3q x y=true↔Lt x y:=y8q.trans w3t
theorem x28:SWO (ltOf x3q) where
 irrefl:=fun x=>by
  cases h:ltOf x3q x x with
  |false=>rfl
  |true=>exact (z85.1 h).irrefl.elim
 trans:=fun x y z h1 h2=>z85.2 ((z85.1 h1).trans (z85.1 h2))
 ntrans:=fun x y z h1 h2=>by
  cases h:ltOf x3q x z with
  |false=>rfl
  |true=>
   have h:=z85.1 h
   have a:¬ Lt x y:=fun k=>by rw [z85.2 k] at h1; cases h1
   have b:¬ Lt y z:=fun k=>by rw [z85.2 k] at h2; cases h2
   exfalso
   rcases x1o x y with k|k|k
   ·exact a k
   ·exact b (k▸h)
   ·exact b (k.trans h)
abbrev Wy:Type:={ p:Int×Int // z1e p∧p≠(0,0) }
instance:Inhabited Wy:=⟨⟨(1,0),by unfold z1e; decide,by decide⟩⟩
def ng2 (a:Pt):Pt:=(-a.1, -a.2)
theorem z8t {p:Int×Int} (h:p≠(0,0)):(z2n p=false↔Pos p)∧(z2n p=true↔Pos (ng2 p)):=by
 obtain ⟨a,b⟩:=p
 have h:¬ (a=0∧b=0):=by simpa using h
 simp only [z2n,decide_eq_false_iff_not,decide_eq_true_eq,Pos,ng2]
 omega
theorem w5c {c:Int}:x2g 0 c<0↔0<c:=x4e
theorem x0g {x y:Int×Int}:z58 x y<0↔(z2n x=false∧z2n y=true)∨(z2n x=z2n y∧0<crs x y):=by
 unfold z58
 have e:crs x y=x.1*y.2 - x.2*y.1:=rfl
 rw [e]
 cases hx:z2n x<;>cases hy:z2n y<;>simp [w5c]
theorem z5p {x y:Wy}:ltOf (fun x y:Wy=>z58 x.1 y.1) x y=true↔(z2n x.1=false∧z2n y.1=true)∨(z2n x.1=z2n y.1∧0<crs x.1 y.1):=y8q.trans x0g
theorem crs_ng (u v:Pt):crs (ng2 u) (ng2 v)=crs u v:=by simp only [crs,ng2]; grind
theorem y2a {x y z:Wy} (hxy:z2n x.1=z2n y.1) (hyz:z2n y.1=z2n z.1) (h1:0≤crs x.1 y.1) (h2:0≤crs y.1 z.1):0≤crs x.1 z.1∧(0<crs x.1 y.1∨0<crs y.1 z.1→0<crs x.1 z.1):=by
 cases hx:z2n x.1 with
 |false=>
  have a:=(z8t x.2.2).1.1 hx
  have b:=(z8t y.2.2).1.1 (hxy▸hx)
  have c:=(z8t z.2.2).1.1 (hyz▸hxy▸hx)
  exact ⟨z9g a b c h1 h2,z23 a b c h1 h2⟩
 |true=>
  have a:=(z8t x.2.2).2.1 hx
  have b:=(z8t y.2.2).2.1 (hxy▸hx)
  have c:=(z8t z.2.2).2.1 (hyz▸hxy▸hx)
  rw [←crs_ng] at h1 h2
  rw [←crs_ng x.1 z.1, ←crs_ng x.1 y.1, ←crs_ng y.1 z.1]
  exact ⟨z9g a b c h1 h2,z23 a b c h1 h2⟩
theorem z8s (u v:Pt):crs u v= - crs v u:=by simp only [crs]; grind
theorem y70:SWO (ltOf (fun x y:Wy=>z58 x.1 y.1)) where
 irrefl:=fun x=>by
  cases h:ltOf (fun x y:Wy=>z58 x.1 y.1) x x with
  |false=>rfl
  |true=>
   rcases z5p.1 h with ⟨a,b⟩|⟨_,b⟩
   ·rw [a] at b; cases b
   ·have:=z8s x.1 x.1; omega
 trans:=fun x y z h1 h2=>by
  rcases z5p.1 h1 with ⟨a,b⟩|⟨a,b⟩<;>rcases z5p.1 h2 with ⟨c,d⟩|⟨c,d⟩
  ·rw [b] at c; cases c
  ·exact z5p.2 (.inl ⟨a,c▸b⟩)
  ·exact z5p.2 (.inl ⟨a▸c,d⟩)
  ·exact z5p.2 (.inr ⟨a.trans c,(y2a a c (by omega) (by omega)).2 (.inl b)⟩)
 ntrans:=fun x y z h1 h2=>by
  cases h:ltOf (fun x y:Wy=>z58 x.1 y.1) x z with
  |false=>rfl
  |true=>
   exfalso
   have n1:¬ ((z2n x.1=false∧z2n y.1=true)∨(z2n x.1=z2n y.1∧0<crs x.1 y.1)):=fun k=>by rw [z5p.2 k] at h1; cases h1
   have n2:¬ ((z2n y.1=false∧z2n z.1=true)∨(z2n y.1=z2n z.1∧0<crs y.1 z.1)):=fun k=>by rw [z5p.2 k] at h2; cases h2
   have n3:=z5p.1 h
   cases hx:z2n x.1<;>cases hy:z2n y.1<;>cases hz:z2n z.1<;>rw [hx,hy] at n1<;>rw [hy,hz] at n2<;>rw [hx,hz] at n3<;>simp at n1 n2 n3
   ·have e1:=z8s x.1 y.1; have e2:=z8s y.1 z.1; have e3:=z8s x.1 z.1
    have:=(y2a (x:=z) (y:=y) (z:=x) (by rw [hz,hy]) (by rw [hy,hx]) (by omega) (by omega)).1
    omega
   ·have e1:=z8s x.1 y.1; have e2:=z8s y.1 z.1; have e3:=z8s x.1 z.1
    have:=(y2a (x:=z) (y:=y) (z:=x) (by rw [hz,hy]) (by rw [hy,hx]) (by omega) (by omega)).1
    omega
theorem v1o {α:Type} (f:α→Int×Int):∀ x,∀ v∈y7f f x,v.oneCell'=true:=by
 intro x v hv
 simp only [y7f,List.mem_cons,List.not_mem_nil,or_false] at hv
 rcases hv with rfl|rfl<;>rfl
theorem x63:y9s Go.Proofs.Try.prog 97 87 x3q id:=fun blk off cap d w hc hH hb hs=>
 AnyQ.slices_SortFunc_eq x5p 2 Try.isAgg86 Try.sizeOf86 (y7f id) (fun _=>rfl) (v1o id) x3q x28 87 #[] blk off cap d w (fun args w=>w4u args w) hc hH hb hs
theorem x62:y9s Go.Proofs.Try.prog 97 98 (fun x y:Wy=>z58 x.1 y.1) Subtype.val:=fun blk off cap d w hc hH hb hs=>
 AnyQ.slices_SortFunc_eq x5p 2 Try.isAgg86 Try.sizeOf86 (y7f Subtype.val) (fun _=>rfl) (v1o Subtype.val) _ y70 98 #[] blk off cap d w (fun args w=>w4t args w) hc hH hb hs
theorem u0n (x y:Int×Int):z97 Go.Proofs.Try.prog 87 (toA [.agg (z36 id x), .agg (z36 id y)]) [] (.d (.int .i64 (x3q x y))) []:=
 (u1h.2 (x.1,x.2,y.1,y.2,()) (x3q x y,()) (w67 x y)).2
theorem u0m (x y:Wy):z97 Go.Proofs.Try.prog 98 (toA [.agg (z36 Subtype.val x), .agg (z36 Subtype.val y)]) [] (.d (.int .i64 (z58 x.1 y.1))) []:=
 (v7o.2 (x.1.1,x.1.2,y.1.1,y.1.2,()) (z58 x.1 y.1,()) (w2l x.2.1 y.2.1)).2
def dPt:List D→Option (Int×Int)
 |[.int .i64 a, .int .i64 b]=>some (a,b)
 |_=>none
def w6t:List (List D)→Option (List (Int×Int))
 |[]=>some []
 |r::l=>match dPt r,w6t l with
  |some p,some t=>some (p::t)
  |_,_=>none
theorem v4g {r:List D} {p:Int×Int} (h:dPt r=some p):r=z36 id p:=by
 unfold dPt at h
 split at h
 ·cases h; rfl
 ·cases h
theorem x39:∀ {es:List (List D)} {l:List (Int×Int)},w6t es=some l→es=l.map (z36 id)
 |[],l,h=>by cases h; rfl
 |r::es,l,h=>by
  simp only [w6t] at h
  cases hp:dPt r with
  |none=>rw [hp] at h; cases h
  |some p=>
   rw [hp] at h
   cases ht:w6t es with
   |none=>rw [ht] at h; cases h
   |some t=>
    rw [ht] at h; cases h
    rw [List.map_cons, ←v4g hp, ←x39 ht]
instance (p:Int×Int):Decidable (z1e p):=by unfold z1e; infer_instance
def dWy:List (Int×Int)→Option (List Wy)
 |[]=>some []
 |p::l=>match dWy l with
  |some t=>if h:z1e p∧p≠(0,0) then some (⟨p,h⟩::t) else none
  |none=>none
theorem w6s:∀ {l:List (Int×Int)} {t:List Wy},dWy l=some t→l=t.map Subtype.val
 |[],t,h=>by cases h; rfl
 |p::l,t,h=>by
  simp only [dWy] at h
  cases ht:dWy l with
  |none=>rw [ht] at h; cases h
  |some u=>
   rw [ht] at h
   simp only at h
   split at h
   ·cases h; rw [w6s ht]; rfl
   ·cases h
def v7m (x:List (List D)×Unit):Option (List (List D)×Unit):=
 match w6t x.1 with
 |some (p::l)=>if l.length≤1000000 then some ((pdq (ltOf x3q) (p::l).toArray 0 (p::l).toArray.size (Lib.bitLen (p::l).toArray.size) true true).toList.map (z36 id),()) else none
 |_=>none
def v1m (x:List (List D)×Unit):Option (List (List D)×Unit):=
 match (w6t x.1).bind dWy with
 |some (p::l)=>if l.length≤1000000 then some ((pdq (ltOf (fun x y:Wy=>z58 x.1 y.1)) (p::l).toArray 0 (p::l).toArray.size (Lib.bitLen (p::l).toArray.size) true true).toList.map (z36 Subtype.val),()) else none
 |_=>none
noncomputable def x6g:Ctr:=w1i
noncomputable def x6f:Ctr:=w1h
noncomputable def v30 (it:It):(p:Prim)→(List (List (Go.Am.D))×Unit)→Option ((List (List (Go.Am.D))×Unit)):=
 fun p x=>bif Nat.ble x.1.length 12 then (w0k it p x) else (v7m x)
noncomputable def u2j:=v30 it0
noncomputable def u2m:Prim→Tup (x6g).scs→Option (STup (scss (x6g).outs)):=
 fun p x=>u2j p x
noncomputable def v3z (it:It):(p:Prim)→(List (List (Go.Am.D))×Unit)→Option ((List (List (Go.Am.D))×Unit)):=
 fun p x=>bif Nat.ble x.1.length 12 then (x7t it p x) else (v1m x)
noncomputable def u2i:=v3z it0
noncomputable def u2l:Prim→Tup (x6f).scs→Option (STup (scss (x6f).outs)):=
 fun p x=>u2i p x
theorem v7q:CtrOk Go.Proofs.Try.prog x6g (u2m std):=by
 refine ⟨w6g.1,fun x y hy=>?_⟩
 obtain ⟨es,u⟩:=x
 change (bif Nat.ble es.length 12 then (w5z std (es,())) else v7m (es,()))=some y at hy
 cases hb:Nat.ble es.length 12 with
 |true=>rw [hb] at hy; exact w6g.2 (es,()) y hy
 |false=>
  rw [hb] at hy
  simp only [cond_false,v7m] at hy
  split at hy
  ·rename_i p l hd
   split at hy
   ·rename_i hl
    cases hy
    have he:=x39 hd
    have key:=x0z (P:=Go.Proofs.Try.prog) x28 x63 u0n (d:=(p::l).toArray) (by simp) (by simp; omega) (some (p::l).toArray.size)
    have hes:es=(p::l).toArray.toList.map (z36 id):=he
    have hlen:(p::l).toArray.size=es.length:=by rw [he]; simp
    rw [←hes] at key
    refine ⟨by show 1≤1; omega,?_⟩
    have key':=key
    rw [hlen] at key'
    rw [hlen]
    exact key'
   ·cases hy
  ·cases hy
theorem v7p:CtrOk Go.Proofs.Try.prog x6f (u2l std):=by
 refine ⟨w6f.1,fun x y hy=>?_⟩
 obtain ⟨es,u⟩:=x
 change (bif Nat.ble es.length 12 then (w5y std (es,())) else v1m (es,()))=some y at hy
 cases hb:Nat.ble es.length 12 with
 |true=>rw [hb] at hy; exact w6f.2 (es,()) y hy
 |false=>
  rw [hb] at hy
  simp only [cond_false,v1m] at hy
  split at hy
  ·rename_i p l hd
   split at hy
   ·rename_i hl
    cases hy
    obtain ⟨ps,h1,h2⟩:=Option.bind_eq_some_iff.1 hd
    have he:=x39 h1
    have he2:=w6s h2
    have key:=x0z (P:=Go.Proofs.Try.prog) y70 x62 u0m (d:=(p::l).toArray) (by simp) (by simp; omega) none
    have hes:es=(p::l).toArray.toList.map (z36 Subtype.val):=by
     rw [he,he2,List.map_map]; rfl
    have hlen:(p::l).toArray.size=es.length:=by rw [hes]; simp
    rw [←hes] at key
    refine ⟨by show 1≤1; omega,?_⟩
    have key':=key
    rw [hlen] at key'
    rw [hlen]
    exact key'
   ·cases hy
  ·cases hy
end Go.Am
end
section
namespace Go.Am
open M06 Go.Sort Go.Proofs
namespace Sorto
theorem it0_eq {S R:Type} (b:S→Option (S⊕R)) (s:S):it0 S R b s=z4n b s:=rfl
section
variable {α:Type} [Inhabited α]
def encA (tp:α→Pt) (d:Array α):List (List D):=d.toList.map (z36 tp)
theorem encA_get {tp:α→Pt} {d:Array α} {j:Nat} (h:j<d.size):(encA tp d)[j]?=some (z36 tp d[j]!):=by
 simp [encA,h]
theorem encA_len (tp:α→Pt) (d:Array α):(encA tp d).length=d.size:=by simp [encA]
theorem swp_size (d:Array α) (i j:Nat):(swp d i j).size=d.size:=by simp [swp]
theorem encA_swp {tp:α→Pt} {d:Array α} {i j:Nat}:encA tp (swp d i j)=((encA tp d).set i (z36 tp d[j]!)).set j (z36 tp d[i]!):=by
 simp [encA,swp,List.map_set]
theorem insInner_size (lt:α→α→Bool) (a:Nat):∀ (j:Nat) (d:Array α),(insInner lt a j d).size=d.size
 |0,d=>rfl
 |j+1,d=>by
  simp only [insInner]
  split
  ·rw [insInner_size lt a j,swp_size]
  ·rfl
theorem cells_enR2 (tp:α→Pt) (x:α):z3c [CK.int IntKind.i64,CK.int IntKind.i64] (z36 tp x)=true:=rfl
theorem dI_enR20 (tp:α→Pt) (x:α):dI ((z36 tp x)[0]?.getD D.nilp)=(tp x).1:=rfl
theorem dI_enR21 (tp:α→Pt) (x:α):dI ((z36 tp x)[1]?.getD D.nilp)=(tp x).2:=rfl
theorem x7r {tp:α→Pt} {cf:α→α→Int} (hcf:∀ x y:α,G87 std ((tp x).1,(tp x).2,(tp y).1,(tp y).2,())=some (cf x y,())) (b i:Int):
  ∀ (j:Nat) (d:Array α),j<d.size→d.size≤1000000→z4n (z7i it0 std) (encA tp d,(0:Int),b,i,(j:Int),())=some (encA tp (insInner (ltOf cf) 0 j d),(0:Int),b,i,()):=by
 intro j
 induction j with
 |zero=>
  intro d hj hs
  rw [z0h]
  have:z7i it0 std (encA tp d,(0:Int),b,i,((0:Nat):Int),())=some (.inr (encA tp d,(0:Int),b,i,())):=by
   have hn:¬ ((0:Nat):Int)>0:=by omega
   simp only [z7i,z0u,z0v,hn]
  rw [this]; rfl
 |succ j ih=>
  intro d hj hs
  rw [z0h]
  have hx:=encA_get (tp:=tp) hj
  have hy:=encA_get (tp:=tp) (show j<d.size by omega)
  have hl:=encA_len tp d
  have hw:IntKind.i64.wrap (((j+1:Nat):Int) - 1)=(j:Int):=by rw [z00]<;>omega
  have hg:((j+1:Nat):Int)>0:=by omega
  have h0:((j+1:Nat):Int)≥0:=by omega
  have h1:((j+1:Nat):Int)<(d.size:Int):=by omega
  have h2:(j:Int)≥0:=by omega
  have h3:(j:Int)<(d.size:Int):=by omega
  have hsj:((encA tp d).set (j+1) (z36 tp d[j]!))[j]?=some (z36 tp d[j]!):=by
   rw [List.getElem?_set_ne (by omega),hy]
  have hc:=hcf d[j+1]! d[j]!
  unfold G87 at hc
  have hrow:∀ x:α,[D.int IntKind.i64 (tp x).1,D.int IntKind.i64 (tp x).2]=z36 tp x:=fun _=>rfl
  simp only [insInner]
  have hgt:(j+1>0):=by omega
  by_cases hlt:cf d[j+1]! d[j]! <0
  ·have hb:z7i it0 std (encA tp d,(0:Int),b,i,((j+1:Nat):Int),())=some (.inl (encA tp (swp d (j+1) j),(0:Int),b,i,(j:Int),())):=by
    simp only [z7i,z0u,z0v,cells_enR2,dI_enR20,dI_enR21,z0k,hg,h0,h1,h2,h3,hw,hx,hy,hl,hc,hlt,hrow,hsj,List.length_set,encA_swp]
   rw [hb]
   have:=ih (swp d (j+1) j) (by rw [swp_size]; omega) (by rw [swp_size]; exact hs)
   simp only [this]
   have:(decide (j+1>0)&&ltOf cf d[j+1]! d[j]!)=true:=by simp [ltOf,hlt]
   rw [if_pos this]
  ·have hb:z7i it0 std (encA tp d,(0:Int),b,i,((j+1:Nat):Int),())=some (.inr (encA tp d,(0:Int),b,i,())):=by
    simp only [z7i,z0u,z0v,cells_enR2,dI_enR20,dI_enR21,z0k,hg,h0,h1,h2,h3,hw,hx,hy,hl,hc,hlt,hrow,hsj,List.length_set]
   rw [hb]
   have:¬ (decide (j+1>0)&&ltOf cf d[j+1]! d[j]!)=true:=by simp [ltOf]; omega
   rw [if_neg this]
theorem x7q {tp:α→Pt} {cf:α→α→Int} (hcf:∀ x y:α,G87 std ((tp x).1,(tp x).2,(tp y).1,(tp y).2,())=some (cf x y,())) (n:Nat) (hn:n≤1000000):
  ∀ (k i:Nat) (d:Array α),n - i=k→d.size=n→z4n (z9k it0 std) (encA tp d,(0:Int),(n:Int),(i:Int),())=some (encA tp (insOuter (ltOf cf) 0 n i d),()):=by
 intro k
 induction k with
 |zero=>
  intro i d hk hs
  rw [z0h,insOuter,if_neg (by omega)]
  have:z9k it0 std (encA tp d,(0:Int),(n:Int),(i:Int),())=some (.inr (encA tp d,())):=by
   have hnn:¬ (i:Int)<(n:Int):=by omega
   simp only [z9k,z0u,z0v,hnn]
  rw [this]
 |succ k ih=>
  intro i d hk hs
  rw [z0h,insOuter,if_pos (by omega)]
  have hin:=x7r hcf (n:Int) (i:Int) i d (by omega) (by omega)
  have hw:=z04 (i:=i) (by omega)
  have hlt:(i:Int)<(n:Int):=by omega
  have:z9k it0 std (encA tp d,(0:Int),(n:Int),(i:Int),())=some (.inl (encA tp (insInner (ltOf cf) 0 i d),(0:Int),(n:Int),((i+1:Nat):Int),())):=by
   simp only [z9k,it0_eq,z0u,z0v,hlt,hin,z0b,hw]
  rw [this]
  exact ih (i+1) _ (by omega) (by rw [insInner_size]; exact hs)
theorem w4e {tp:α→Pt} {cf:α→α→Int} (hcf:∀ x y:α,G87 std ((tp x).1,(tp x).2,(tp y).1,(tp y).2,())=some (cf x y,())) (d:Array α) (hn:d.size≤1000000):
  w2t std (encA tp d,(0:Int),(d.size:Int),())=some (encA tp (insertionSort (ltOf cf) d 0 d.size),()):=by
 have h:=x7q hcf d.size hn (d.size - 1) 1 d rfl rfl
 have hw:IntKind.i64.wrap ((0:Int)+1)=1:=by decide
 unfold w2t
 simp only [w0m,it0_eq,z0u,z0v,z0b,hw]
 rw [show ((1:Int))=((1:Nat):Int) from rfl,h]
 rfl
theorem pdq_small (lt:α→α→Bool) (d:Array α) (hd:d.size≤12) (l:Nat) (u v:Bool):pdq lt d 0 d.size l u v=insertionSort lt d 0 d.size:=by
 rw [pdq,if_pos (by omega)]
theorem sorto_small {tp:α→Pt} {cf:α→α→Int} (hcf:∀ x y:α,G87 std ((tp x).1,(tp x).2,(tp y).1,(tp y).2,())=some (cf x y,())) (d:Array α) (hd:d.size≤12):
  w5z std (encA tp d,())=some (encA tp (pdq (ltOf cf) d 0 d.size (Lib.bitLen d.size) true true),()):=by
 have h:=w4e hcf d (by omega)
 unfold w2t at h
 have hl:=encA_len tp d
 have h105:∃ y,w53 std (IntKind.u64.wrap (d.size:Int),())=some y:=by
  have hs:d.size=0∨d.size=1∨d.size=2∨d.size=3∨d.size=4∨d.size=5∨d.size=6∨d.size=7∨d.size=8∨d.size=9∨d.size=10∨d.size=11∨d.size=12:=by omega
  rcases hs with h|h|h|h|h|h|h|h|h|h|h|h|h<;>rw [h]<;>exact ⟨_,rfl⟩
 obtain ⟨y,h105⟩:=h105
 have hw:IntKind.i64.wrap ((d.size:Int) - 0)=(d.size:Int):=by rw [z00]<;>omega
 have h12:(d.size:Int)≤12:=by omega
 have hb:∀ q:Int,y5p it0 std (encA tp d,(0:Int),(d.size:Int),q,true,true,())=some (.inr (encA tp (insertionSort (ltOf cf) d 0 d.size),())):=by
  intro q
  simp only [y5p,z0u,z0v,z0k,hw,h12,h]
 unfold w5z
 simp only [w0k,w0o,it0_eq,z0u,z0v,hl,h105]
 rw [z0h,hb,pdq_small _ _ hd]
 rfl
end
end Sorto
end Go.Am
end
section
namespace Go.Am
open M06 Go.Sort Go.Proofs
namespace Sortt
theorem it0_eq {S R:Type} (b:S→Option (S⊕R)) (s:S):it0 S R b s=z4n b s:=rfl
section
variable {α:Type} [Inhabited α]
def encA (tp:α→Pt) (d:Array α):List (List D):=d.toList.map (z36 tp)
theorem encA_get {tp:α→Pt} {d:Array α} {j:Nat} (h:j<d.size):(encA tp d)[j]?=some (z36 tp d[j]!):=by
 simp [encA,h]
theorem encA_len (tp:α→Pt) (d:Array α):(encA tp d).length=d.size:=by simp [encA]
theorem swp_size (d:Array α) (i j:Nat):(swp d i j).size=d.size:=by simp [swp]
theorem encA_swp {tp:α→Pt} {d:Array α} {i j:Nat}:encA tp (swp d i j)=((encA tp d).set i (z36 tp d[j]!)).set j (z36 tp d[i]!):=by
 simp [encA,swp,List.map_set]
theorem insInner_size (lt:α→α→Bool) (a:Nat):∀ (j:Nat) (d:Array α),(insInner lt a j d).size=d.size
 |0,d=>rfl
 |j+1,d=>by
  simp only [insInner]
  split
  ·rw [insInner_size lt a j,swp_size]
  ·rfl
theorem cells_enR2 (tp:α→Pt) (x:α):z3c [CK.int IntKind.i64,CK.int IntKind.i64] (z36 tp x)=true:=rfl
theorem dI_enR20 (tp:α→Pt) (x:α):dI ((z36 tp x)[0]?.getD D.nilp)=(tp x).1:=rfl
theorem dI_enR21 (tp:α→Pt) (x:α):dI ((z36 tp x)[1]?.getD D.nilp)=(tp x).2:=rfl
theorem x7p {tp:α→Pt} {cf:α→α→Int} (hcf:∀ x y:α,G98 std ((tp x).1,(tp x).2,(tp y).1,(tp y).2,())=some (cf x y,())) (b i:Int):
  ∀ (j:Nat) (d:Array α),j<d.size→d.size≤1000000→z4n (z9l std) (encA tp d,(0:Int),b,i,(j:Int),())=some (encA tp (insInner (ltOf cf) 0 j d),(0:Int),b,i,()):=by
 intro j
 induction j with
 |zero=>
  intro d hj hs
  rw [z0h]
  have:z9l std (encA tp d,(0:Int),b,i,((0:Nat):Int),())=some (.inr (encA tp d,(0:Int),b,i,())):=by
   have hn:¬ ((0:Nat):Int)>0:=by omega
   simp only [z9l,z0u,z0v,hn]
  rw [this]; rfl
 |succ j ih=>
  intro d hj hs
  rw [z0h]
  have hx:=encA_get (tp:=tp) hj
  have hy:=encA_get (tp:=tp) (show j<d.size by omega)
  have hl:=encA_len tp d
  have hw:IntKind.i64.wrap (((j+1:Nat):Int) - 1)=(j:Int):=by rw [z00]<;>omega
  have hg:((j+1:Nat):Int)>0:=by omega
  have h0:((j+1:Nat):Int)≥0:=by omega
  have h1:((j+1:Nat):Int)<(d.size:Int):=by omega
  have h2:(j:Int)≥0:=by omega
  have h3:(j:Int)<(d.size:Int):=by omega
  have hsj:((encA tp d).set (j+1) (z36 tp d[j]!))[j]?=some (z36 tp d[j]!):=by
   rw [List.getElem?_set_ne (by omega),hy]
  have hc:=hcf d[j+1]! d[j]!
  have hrow:∀ x:α,[D.int IntKind.i64 (tp x).1,D.int IntKind.i64 (tp x).2]=z36 tp x:=fun _=>rfl
  simp only [insInner]
  have hgt:(j+1>0):=by omega
  by_cases hlt:cf d[j+1]! d[j]! <0
  ·have hb:z9l std (encA tp d,(0:Int),b,i,((j+1:Nat):Int),())=some (.inl (encA tp (swp d (j+1) j),(0:Int),b,i,(j:Int),())):=by
    simp only [z9l,z0u,z0v,cells_enR2,dI_enR20,dI_enR21,z0k,hg,h0,h1,h2,h3,hw,hx,hy,hl,hc,hlt,hrow,hsj,List.length_set,encA_swp]
   rw [hb]
   have:=ih (swp d (j+1) j) (by rw [swp_size]; omega) (by rw [swp_size]; exact hs)
   simp only [this]
   have:(decide (j+1>0)&&ltOf cf d[j+1]! d[j]!)=true:=by simp [ltOf,hlt]
   rw [if_pos this]
  ·have hb:z9l std (encA tp d,(0:Int),b,i,((j+1:Nat):Int),())=some (.inr (encA tp d,(0:Int),b,i,())):=by
    simp only [z9l,z0u,z0v,cells_enR2,dI_enR20,dI_enR21,z0k,hg,h0,h1,h2,h3,hw,hx,hy,hl,hc,hlt,hrow,hsj,List.length_set]
   rw [hb]
   have:¬ (decide (j+1>0)&&ltOf cf d[j+1]! d[j]!)=true:=by simp [ltOf]; omega
   rw [if_neg this]
theorem x7o {tp:α→Pt} {cf:α→α→Int} (hcf:∀ x y:α,G98 std ((tp x).1,(tp x).2,(tp y).1,(tp y).2,())=some (cf x y,())) (n:Nat) (hn:n≤1000000):
  ∀ (k i:Nat) (d:Array α),n - i=k→d.size=n→z4n (z9j it0 std) (encA tp d,(0:Int),(n:Int),(i:Int),())=some (encA tp (insOuter (ltOf cf) 0 n i d),()):=by
 intro k
 induction k with
 |zero=>
  intro i d hk hs
  rw [z0h,insOuter,if_neg (by omega)]
  have:z9j it0 std (encA tp d,(0:Int),(n:Int),(i:Int),())=some (.inr (encA tp d,())):=by
   have hnn:¬ (i:Int)<(n:Int):=by omega
   simp only [z9j,z0u,z0v,hnn]
  rw [this]
 |succ k ih=>
  intro i d hk hs
  rw [z0h,insOuter,if_pos (by omega)]
  have hin:=x7p hcf (n:Int) (i:Int) i d (by omega) (by omega)
  have hw:=z04 (i:=i) (by omega)
  have hlt:(i:Int)<(n:Int):=by omega
  have:z9j it0 std (encA tp d,(0:Int),(n:Int),(i:Int),())=some (.inl (encA tp (insInner (ltOf cf) 0 i d),(0:Int),(n:Int),((i+1:Nat):Int),())):=by
   simp only [z9j,it0_eq,z0u,z0v,hlt,hin,z0b,hw]
  rw [this]
  exact ih (i+1) _ (by omega) (by rw [insInner_size]; exact hs)
theorem w4d {tp:α→Pt} {cf:α→α→Int} (hcf:∀ x y:α,G98 std ((tp x).1,(tp x).2,(tp y).1,(tp y).2,())=some (cf x y,())) (d:Array α) (hn:d.size≤1000000):
  w2s std (encA tp d,(0:Int),(d.size:Int),())=some (encA tp (insertionSort (ltOf cf) d 0 d.size),()):=by
 have h:=x7o hcf d.size hn (d.size - 1) 1 d rfl rfl
 have hw:IntKind.i64.wrap ((0:Int)+1)=1:=by decide
 unfold w2s
 simp only [w0l,it0_eq,z0u,z0v,z0b,hw]
 rw [show ((1:Int))=((1:Nat):Int) from rfl,h]
 rfl
theorem pdq_small (lt:α→α→Bool) (d:Array α) (hd:d.size≤12) (l:Nat) (u v:Bool):pdq lt d 0 d.size l u v=insertionSort lt d 0 d.size:=by
 rw [pdq,if_pos (by omega)]
theorem sortt_small {tp:α→Pt} {cf:α→α→Int} (hcf:∀ x y:α,G98 std ((tp x).1,(tp x).2,(tp y).1,(tp y).2,())=some (cf x y,())) (d:Array α) (hd:d.size≤12):
  w5y std (encA tp d,())=some (encA tp (pdq (ltOf cf) d 0 d.size (Lib.bitLen d.size) true true),()):=by
 have h:=w4d hcf d (by omega)
 unfold w2s at h
 have hl:=encA_len tp d
 have h105:∃ y,w52 std (IntKind.u64.wrap (d.size:Int),())=some y:=by
  have hs:d.size=0∨d.size=1∨d.size=2∨d.size=3∨d.size=4∨d.size=5∨d.size=6∨d.size=7∨d.size=8∨d.size=9∨d.size=10∨d.size=11∨d.size=12:=by omega
  rcases hs with h|h|h|h|h|h|h|h|h|h|h|h|h<;>rw [h]<;>exact ⟨_,rfl⟩
 obtain ⟨y,h105⟩:=h105
 have hw:IntKind.i64.wrap ((d.size:Int) - 0)=(d.size:Int):=by rw [z00]<;>omega
 have h12:(d.size:Int)≤12:=by omega
 have hb:∀ q:Int,y5o it0 std (encA tp d,(0:Int),(d.size:Int),q,true,true,())=some (.inr (encA tp (insertionSort (ltOf cf) d 0 d.size),())):=by
  intro q
  simp only [y5o,z0u,z0v,z0k,hw,h12,h]
 unfold w5y
 simp only [x7t,w0n,it0_eq,z0u,z0v,hl,h105]
 rw [z0h,hb,pdq_small _ _ hd]
 rfl
end
end Sortt
end Go.Am
end
section
namespace Go.Am
open M06 Go.Sort Go.Proofs
theorem y6t {α:Type} [Inhabited α] {d d':Array α} (h:PermIn 0 d.size d d'):d'.toList.Perm d.toList:=by
 have:=h.2.2
 have e1:d'.extract 0 d.size=d':=by rw [←h.1]; simp
 have e2:d.extract 0 d.size=d:=by simp
 rw [e1,e2] at this; exact this
theorem y2y {α:Type} [Inhabited α] {lt:α→α→Bool} {d d':Array α} (hs:d'.size=d.size) (h:SortedIn lt 0 d.size d'):d'.toList.Pairwise (fun a b=>lt b a=false):=by
 rw [List.pairwise_iff_getElem]
 intro i j hi hj hij
 have hi':i<d'.size:=by simpa using hi
 have hj':j<d'.size:=by simpa using hj
 have:=h i j (Nat.zero_le _) hij (by omega)
 rw [getElem!_pos d' i hi',getElem!_pos d' j hj'] at this
 simpa using this
theorem v1i (l:List Pt) (hl:l.length≤12):∃ l',u2j std (z0d l,())=some (z0d l',())∧l'.Perm l∧l'.Pairwise (fun a b=>¬ Lt b a):=by
 have h:=Sorto.sorto_small (tp:=id) (cf:=x3q) (fun x y=>w67 x y) l.toArray (by simpa using hl)
 have hp:=pdq_sorts (ltOf x3q) x28 l.toArray 0 l.toArray.size (Lib.bitLen l.toArray.size) true true (Nat.zero_le _) (Nat.le_refl _) (Or.inl rfl)
 generalize hd:pdq (ltOf x3q) l.toArray 0 l.toArray.size (Lib.bitLen l.toArray.size) true true=d' at h hp
 refine ⟨d'.toList,?_,y6t hp.1,?_⟩
 ·have hb:Nat.ble (z0d l).length 12=true:=by simp [z0d]; exact hl
  show (bif Nat.ble (z0d l).length 12 then _ else _)=_
  rw [hb]
  exact h
 ·refine (y2y hp.1.1 hp.2).imp fun hab hlt=>?_
  rw [z85.2 hlt] at hab; cases hab
theorem x6b:∀ {l:List Pt},(∀ w∈l,z1e w∧w≠(0,0))→∃ t,dWy l=some t∧t.map Subtype.val=l
 |[],_=>⟨[],rfl,rfl⟩
 |p::l,h=>by
  obtain ⟨t,h1,h2⟩:=x6b (l:=l) (fun w hw=>h w (List.mem_cons_of_mem _ hw))
  refine ⟨⟨p,h p (by simp)⟩::t,?_,by simp [h2]⟩
  simp only [dWy,h1,dif_pos (h p (List.mem_cons_self ..))]
theorem x2e:∀ (l:List Pt),w6t (z0d l)=some l
 |[]=>rfl
 |p::l=>by
  show (match dPt (eP p),w6t (z0d l) with|some q,some t=>some (q::t)|_,_=>none)=_
  rw [x2e l]
  rfl
theorem v1h (l:List Pt) (hw:∀ w∈l,z1e w∧w≠(0,0)) (hl:l.length≤1000000):∃ l',u2i std (z0d l,())=some (z0d l',())∧l'.Perm l∧l'.Pairwise (fun a b=>¬ z58 b a<0):=by
 obtain ⟨t,h1,h2⟩:=x6b hw
 have htl:t.length=l.length:=by rw [←h2]; simp
 have hp:=pdq_sorts (ltOf (fun x y:Wy=>z58 x.1 y.1)) y70 t.toArray 0 t.toArray.size (Lib.bitLen t.toArray.size) true true (Nat.zero_le _) (Nat.le_refl _) (Or.inl rfl)
 have henc:z0d l=Sortt.encA Subtype.val t.toArray:=by
  rw [←h2]
  simp only [z0d,Sortt.encA,List.map_map]
  rfl
 generalize hd:pdq (ltOf (fun x y:Wy=>z58 x.1 y.1)) t.toArray 0 t.toArray.size (Lib.bitLen t.toArray.size) true true=d' at hp
 have hfin:(d'.toList.map Subtype.val).Perm l∧(d'.toList.map Subtype.val).Pairwise (fun a b=>¬ z58 b a<0):=by
  refine ⟨?_,?_⟩
  ·have:=(y6t hp.1).map Subtype.val
   rw [←h2]; simpa using this
  ·rw [List.pairwise_map]
   refine (y2y hp.1.1 hp.2).imp fun hab hlt=>?_
   rw [y8q (cf:=fun x y:Wy=>z58 x.1 y.1).2 hlt] at hab; cases hab
 refine ⟨d'.toList.map Subtype.val,?_,hfin.1,hfin.2⟩
 have hres:z0d (d'.toList.map Subtype.val)=d'.toList.map (z36 Subtype.val):=by
  simp only [z0d,List.map_map]; rfl
 show (bif Nat.ble (z0d l).length 12 then x7t it0 std (z0d l,()) else v1m (z0d l,()))=_
 by_cases h12:l.length≤12
 ·have hb:Nat.ble (z0d l).length 12=true:=by simp [z0d]; exact h12
  rw [hb]
  have h:=Sortt.sortt_small (tp:=Subtype.val) (cf:=fun x y:Wy=>z58 x.1 y.1) (fun x y=>w2l x.2.1 y.2.1) t.toArray (by simp; omega)
  rw [hd, ←henc] at h
  rw [hres]
  exact h
 ·have hb:Nat.ble (z0d l).length 12=false:=by
   have:¬ (z0d l).length≤12:=by simpa [z0d] using h12
   cases hq:Nat.ble (z0d l).length 12 with
   |false=>rfl
   |true=>exact absurd (Nat.le_of_ble_eq_true hq) this
  rw [hb]
  simp only [cond_false,v1m,x2e,Option.bind_some,h1]
  match t,h1,htl,hd with
  |[],_,htl,_=>simp at htl; omega
  |p::t,_,htl,hd=>
   simp only
   rw [if_pos (by simp at htl; omega),hd,hres]
end Go.Am
end
section
namespace Go.Am
open M06
def y0f (l:List Pt) (hs:List (List Pt)):Prop:=20<l.length∨8<hs.length∨∃ h∈hs,20<h.length
instance (l:List Pt) (hs:List (List Pt)):Decidable (y0f l hs):=by unfold y0f; infer_instance
theorem z6k {α:Type} {l:List α} {i:Nat} {m d:α} (h:l[i]?=some m):l.getD i d=m:=by simp [List.getD_eq_getElem?_getD,h]
theorem z8u {α:Type} {l:List α} {d:α} {P:α→Prop} (h:∀ i,i<l.length→P (l.getD i d)):∀ p∈l,P p:=fun p hp=>by
 obtain ⟨i,hi'⟩:=List.getElem?_of_mem hp
 have:=h i (List.getElem?_eq_some_iff.1 hi').1
 rwa [z6k hi'] at this
theorem z5v {α:Type} {l:List α} {i:Nat} (d:α) (h:i<l.length):l.getD i d∈l:=by
 obtain ⟨m,hm⟩:=z0l h
 rw [z6k hm]; exact List.mem_of_getElem? hm
theorem z9n (l:List Pt) (hs:List (List Pt)):G14 std (z0d l,z1s hs,())=some (decide (y0f l hs),()):=by
 unfold G14
 have h0:(if (l.length:Int)>20 then some (z0d l,z1s hs,true,()) else some (z0d l,z1s hs,decide ((hs.length:Int)>8),()))=some (z0d l,z1s hs,decide (20<l.length∨8<hs.length),()):=by
  by_cases h1:20<l.length
  ·have:(l.length:Int)>20:=by omega
   simp [this,h1]
  ·have:¬ (l.length:Int)>20:=by omega
   simp only [this,h1,if_false,false_or]
   congr 4
   rw [decide_eq_decide]; omega
 have e1:std.ofNat (std.len (z0d l))=(l.length:Int):=by simp [z1k,z2t,z0d]
 have e2:std.ofNat (std.len (z1s hs))=(hs.length:Int):=by simp [z1k,z2t,z1s]
 simp only [g14,it0,z2a,z3x,z2w,z24,z3s,z69,e1,e2,y4q,decide_eq_true_eq,h0,Option.bind_some]
 by_cases hg:20<l.length∨8<hs.length
 ·have:y0f l hs:=hg.elim .inl fun h=> .inr (.inl h)
  simp only [hg,if_true,decide_eq_true this]
 ·have hl8:hs.length≤8:=by omega
  have key:=z3v (b:=w5s std) hs.length (fun i=>(z0d l,z1s hs,(i:Int),())) (fun i=>decide (20<(hs.getD i []).length)) (fun i=> .inl (true,())) (.inr ()) (fun i hi'=>by
   obtain ⟨m,hm⟩:=z0l hi'
   have hw:=z04 (i:=i) (by omega)
   have hlt:(i:Int)<hs.length:=by omega
   have h0:(0:Int)≤i:=by omega
   simp only [z6k hm,w5s,z0u,z0v,z1s,z67,x2d,hm,hlt,h0,ge_iff_le,z0b,hw,z0d]
   by_cases k:20<m.length
   ·have:(m.length:Int)>20:=by omega
    simp [k,this]
   ·have:¬ (m.length:Int)>20:=by omega
    simp [k,this]) (by
   have hn:¬ (hs.length:Int)<hs.length:=by omega
   simp only [w5s,z0u,z0v,z1s,hn])
  have e0:(z0d l,z1s hs,(0:Int),())=(z0d l,z1s hs,((0:Nat):Int),()):=rfl
  simp only [hg,if_false]
  rw [e0]
  rcases key with ⟨i,h1,h2,_,h4⟩|⟨h1,h2⟩
  ·have:y0f l hs:= .inr (.inr ⟨_,z5v [] h1,by simpa using h2⟩)
   rw [h4]
   simp only [z0u,z0v,decide_eq_true this]
  ·have:¬ y0f l hs:=by
    rintro (h|h|⟨h,hm,hh⟩)
    ·exact hg (.inl h)
    ·exact hg (.inr h)
    ·have:=z8u (P:=fun h=>¬ 20<h.length) (fun i hi=>by simpa using h1 i hi) h hm
     exact this hh
   rw [h2]
   simp only [z0u,z0v,decide_eq_false this]
def z80 (l:List Pt) (hs:List (List Pt)):Int:=
 if ¬ z6q l∨4<hs.length∨∃ h∈hs,¬ z6q h then 6 else if (¬ ∀ p∈l,z0m 0 1000 p)∨∃ h∈hs,¬ ∀ p∈h,z0m (-1000) 1000 p then 3 else 0
theorem w7i (l:List Pt) (hs:List (List Pt)):G18 std (z0d l,z1s hs,())=some (z80 l hs,()):=by
 unfold G18 z80
 have e2:std.ofNat (std.len (z1s hs))=(hs.length:Int):=by simp [z1k,z2t,z1s]
 by_cases h1:z6q l
 case neg=>simp only [g18,it0,z0u,z0v,x6s,h1,not_false_eq_true,true_or]
 by_cases h2:4<hs.length
 case pos=>
  have:(hs.length:Int)>4:=by omega
  simp only [g18,it0,z2a,z3x,z2w,z24,z3s,z69,z5j,e2,y4q,x6s,h1,h2,this,not_true,false_or,true_or,or_true,decide_true,if_true,if_false,Option.bind_some,Bool.false_eq_true]
 have h2':¬ (hs.length:Int)>4:=by omega
 have key:=z3v (b:=w5r std) hs.length (fun i=>(z0d l,z1s hs,z1s hs,(hs.length:Int),(i:Int),())) (fun i=>!decide (z6q (hs.getD i []))) (fun i=> .inl (z0d l,z1s hs,(i:Int),())) (.inr (z0d l,z1s hs,())) (fun i hi'=>by
  obtain ⟨m,hm⟩:=z0l hi'
  have hw:=z04 (i:=i) (by omega)
  have hlt:(i:Int)<hs.length:=by omega
  have h0:(0:Int)≤i:=by omega
  simp only [z6k hm,w5r,z0u,z0v,z1s,z67,x2d,x6s,hm,hlt,h0,ge_iff_le,z0b,hw]
  by_cases k:z6q m
  ·simp [k]
  ·simp [k]) (by
  have hn:¬ (hs.length:Int)<hs.length:=by omega
  simp only [w5r,z0u,z0v,hn])
 have e0:(z0d l,z1s hs,z1s hs,(hs.length:Int),(0:Int),())=(z0d l,z1s hs,z1s hs,(hs.length:Int),((0:Nat):Int),()):=rfl
 simp only [g18,it0,z2a,z3x,z2w,z24,z3s,z69,z5j,e2,y4q,x6s,h1,h2',h2,not_true,false_or,decide_true,if_true,if_false,Option.bind_some,Bool.false_eq_true,decide_false]
 rw [e0]
 rcases key with ⟨i,i1,i2,_,i4⟩|⟨i1,i2⟩
 ·have:∃ h∈hs,¬ z6q h:=⟨_,z5v [] i1,by simpa using i2⟩
  have h0:(0:Int)≤i:=by omega
  simp only [i4,Option.bind_some,Sum.elim_inl,z4a,ge_iff_le,h0,decide_true,if_true,this]
 ·have hall:=z8u (P:=fun h=>z6q h) (fun i hi=>by simpa using i1 i hi)
  have hno:¬ ∃ h∈hs,¬ z6q h:=fun ⟨h,hm,hn⟩=>hn (hall h hm)
  simp only [i2,Option.bind_some,Sum.elim_inr,z4a,show ¬ (-1:Int)≥0 by decide,decide_false,Bool.false_eq_true,if_false,hno]
  have g0:g53 it0 std (0,1000,z0d l,())=some (decide (∀ p∈l,z0m 0 1000 p),()):=w7d 0 1000 l (by have:=h1.2; omega)
  rw [g0]
  by_cases h3:∀ p∈l,z0m 0 1000 p
  case neg=>simp only [Option.bind_some,decide_eq_false h3,decide_false,Bool.false_eq_true,if_false,if_true,h3,not_false_eq_true,true_or]
  have key2:=z3v (b:=x8k it0 std) hs.length (fun i=>(z0d l,z1s hs,z1s hs,(hs.length:Int),(i:Int),())) (fun i=>!decide (∀ p∈hs.getD i [],z0m (-1000) 1000 p)) (fun i=> .inl (z0d l,z1s hs,(i:Int),())) (.inr (z0d l,z1s hs,())) (fun i hi'=>by
   obtain ⟨m,hm⟩:=z0l hi'
   have hw:=z04 (i:=i) (by omega)
   have hlt:(i:Int)<hs.length:=by omega
   have h0:(0:Int)≤i:=by omega
   have g1:g53 it0 std (-1000,1000,z0d m,())=some (decide (∀ p∈m,z0m (-1000) 1000 p),()):=w7d (-1000) 1000 m (by have:=(hall m (List.mem_of_getElem? hm)).2; omega)
   simp only [z6k hm,x8k,z0u,z0v,z1s,z67,x2d,g1,hm,hlt,h0,ge_iff_le,z0b,hw]
   by_cases k:∀ p∈m,z0m (-1000) 1000 p
   ·rw [if_pos k,if_neg (by simp),if_neg (fun h=>h k)]
   ·rw [if_neg k,if_pos rfl,if_pos k]) (by
   have hn:¬ (hs.length:Int)<hs.length:=by omega
   simp only [x8k,z0u,z0v,hn])
  simp only [Option.bind_some,decide_eq_true h3,if_true,Bool.false_eq_true,if_false,e2]
  rw [e0]
  rcases key2 with ⟨i,j1,j2,_,j4⟩|⟨j1,j2⟩
  ·have:∃ h∈hs,¬ ∀ p∈h,z0m (-1000) 1000 p:=⟨_,z5v [] j1,by simpa only [Bool.not_eq_true',decide_eq_false_iff_not] using j2⟩
   have h0:(0:Int)≤i:=by omega
   simp only [j4,Option.bind_some,Sum.elim_inl,ge_iff_le,h0,decide_true,if_true,this,or_true]
  ·have hall2:=z8u (P:=fun h=>∀ p∈h,z0m (-1000) 1000 p) (fun i hi=>by have:=j1 i hi; simpa only [Bool.not_eq_false',decide_eq_true_eq] using this)
   have hno2:¬ ∃ h∈hs,¬ ∀ p∈h,z0m (-1000) 1000 p:=fun ⟨h,hm,hn⟩=>hn (hall2 h hm)
   have h3':¬ ¬ ∀ p∈l,z0m 0 1000 p:=fun h=>h h3
   simp only [j2,Option.bind_some,Sum.elim_inr,if_false,decide_false,Bool.false_eq_true,hno2,h3',or_false]
theorem z8y (l:List Pt) (hs:List (List Pt)):G19 std (z0d l,z1s hs,())=some (z80 l hs,()):=by
 unfold G19 z80
 have e2:std.ofNat (std.len (z1s hs))=(hs.length:Int):=by simp [z1k,z2t,z1s]
 by_cases h1:z6q l
 case neg=>simp only [g19,it0,z0u,z0v,x6r,h1,not_false_eq_true,true_or]
 by_cases h2:4<hs.length
 case pos=>
  have:(hs.length:Int)>4:=by omega
  simp only [g19,it0,z2a,z3x,z2w,z24,z3s,z69,z5j,e2,y4q,x6r,h1,h2,this,not_true,false_or,true_or,or_true,decide_true,if_true,if_false,Option.bind_some,Bool.false_eq_true]
 have h2':¬ (hs.length:Int)>4:=by omega
 have key:=z3v (b:=w5q std) hs.length (fun i=>(z0d l,z1s hs,(i:Int),())) (fun i=>!decide (z6q (hs.getD i []))) (fun i=> .inl (6,())) (.inr (z0d l,z1s hs,())) (fun i hi'=>by
  obtain ⟨m,hm⟩:=z0l hi'
  have hw:=z04 (i:=i) (by omega)
  have hlt:(i:Int)<hs.length:=by omega
  have h0:(0:Int)≤i:=by omega
  simp only [z6k hm,w5q,z0u,z0v,z1s,z67,x2d,x6r,hm,hlt,h0,ge_iff_le,z0b,hw]
  by_cases k:z6q m
  ·simp [k]
  ·simp [k]) (by
  have hn:¬ (hs.length:Int)<hs.length:=by omega
  simp only [w5q,z0u,z0v,z1s,hn])
 have e0:(z0d l,z1s hs,(0:Int),())=(z0d l,z1s hs,((0:Nat):Int),()):=rfl
 simp only [g19,it0,z2a,z3x,z2w,z24,z3s,z69,z5j,e2,y4q,x6r,h1,h2',h2,not_true,false_or,decide_true,if_true,if_false,Option.bind_some,Bool.false_eq_true,decide_false]
 rw [e0]
 rcases key with ⟨i,i1,i2,_,i4⟩|⟨i1,i2⟩
 ·have:∃ h∈hs,¬ z6q h:=⟨_,z5v [] i1,by simpa using i2⟩
  simp only [i4,Option.bind_some,Sum.elim_inl,if_true,this]
 ·have hall:=z8u (P:=fun h=>z6q h) (fun i hi=>by simpa using i1 i hi)
  have hno:¬ ∃ h∈hs,¬ z6q h:=fun ⟨h,hm,hn⟩=>hn (hall h hm)
  simp only [i2,Option.bind_some,Sum.elim_inr,Bool.false_eq_true,if_false,hno]
  have g0:g56 it0 std (z0d l,0,1000,())=some (decide (∀ p∈l,z0m 0 1000 p),()):=w7c 0 1000 l (by have:=h1.2; omega)
  rw [g0]
  by_cases h3:∀ p∈l,z0m 0 1000 p
  case neg=>simp only [Option.bind_some,decide_eq_false h3,decide_false,Bool.false_eq_true,if_false,if_true,h3,not_false_eq_true,true_or]
  have key2:=z3v (b:=x8j it0 std) hs.length (fun i=>(z0d l,z1s hs,(i:Int),())) (fun i=>!decide (∀ p∈hs.getD i [],z0m (-1000) 1000 p)) (fun i=> .inl (3,())) (.inr ()) (fun i hi'=>by
   obtain ⟨m,hm⟩:=z0l hi'
   have hw:=z04 (i:=i) (by omega)
   have hlt:(i:Int)<hs.length:=by omega
   have h0:(0:Int)≤i:=by omega
   have g1:g56 it0 std (z0d m, -1000,1000,())=some (decide (∀ p∈m,z0m (-1000) 1000 p),()):=w7c (-1000) 1000 m (by have:=(hall m (List.mem_of_getElem? hm)).2; omega)
   simp only [z6k hm,x8j,z0u,z0v,z1s,z67,x2d,g1,hm,hlt,h0,ge_iff_le,z0b,hw]
   by_cases k:∀ p∈m,z0m (-1000) 1000 p
   ·rw [if_pos k,if_neg (by simp),if_neg (fun h=>h k)]
   ·rw [if_neg k,if_pos rfl,if_pos k]) (by
   have hn:¬ (hs.length:Int)<hs.length:=by omega
   simp only [x8j,z0u,z0v,z1s,hn])
  simp only [Option.bind_some,decide_eq_true h3,if_true,Bool.false_eq_true,if_false]
  rw [e0]
  rcases key2 with ⟨i,j1,j2,_,j4⟩|⟨j1,j2⟩
  ·have:∃ h∈hs,¬ ∀ p∈h,z0m (-1000) 1000 p:=⟨_,z5v [] j1,by simpa only [Bool.not_eq_true',decide_eq_false_iff_not] using j2⟩
   simp only [j4,Option.bind_some,Sum.elim_inl,if_true,this,or_true]
  ·have hall2:=z8u (P:=fun h=>∀ p∈h,z0m (-1000) 1000 p) (fun i hi=>by have:=j1 i hi; simpa only [Bool.not_eq_false',decide_eq_true_eq] using this)
   have hno2:¬ ∃ h∈hs,¬ ∀ p∈h,z0m (-1000) 1000 p:=fun ⟨h,hm,hn⟩=>hn (hall2 h hm)
   have h3':¬ ¬ ∀ p∈l,z0m 0 1000 p:=fun h=>h h3
   simp only [j2,Option.bind_some,Sum.elim_inr,if_false,Bool.false_eq_true,hno2,h3',or_false]
end Go.Am
end
noncomputable section
namespace Go.Am
def v4n:Ctr:=
 ⟨88,[.list 2],[],[(.ret,⟨[(0, .slc 0 2)],[.row [ci,ci]],1⟩)]⟩
def la88:List LA:=
 [⟨88,[false,true,false,true,true],0,⟨⟨[(3, .vec 0 2),(6, .list 2),(7, .int .i64),(8, .int .i64)],[.row [ci,ci]],61⟩,[((AX.exit 0),⟨[(3, .vec 0 2)],[.row [ci,ci]],61⟩)]⟩⟩,
 ⟨88,[false,false,true,false,false,true,true,false,false,true,false,true,true],0,⟨⟨[(3, .sl 0 2),(5, .bptr 1 0),(6, .list 2),(7, .int .i64),(8, .int .i64)],[.row [ci,ci], .box [.int .i64, .int .i64]],61⟩,[((AX.exit 2),⟨[(3, .sl 0 2),(5, .bptr 1 0),(6, .list 2),(7, .int .i64),(8, .int .i64)],[.row [ci,ci], .box [.int .i64, .int .i64]],61⟩)]⟩⟩]
def ja88:List JA:=
 []
def v88:List CF:=
 []
def an88:Anns:=
 ⟨v88,ja88,[]⟩
def y6e (p:Prim):(LD×T29)→Option ((LD×T29)⊕(LD×T29)):=
 fun a=>opt.run _ (
 opt.ask _ (p.cmp .gtr (p.ofNat a.2.2.2.2.1) (1:Int)) (
 opt.need _ (bif (p.cmp .geq (p.ar .sub .i64 (p.ofNat a.2.2.2.2.1) (1:Int)) (0:Int)) then (p.cmp .lss (p.ar .sub .i64 (p.ofNat a.2.2.2.2.1) (1:Int)) (p.ofNat a.2.2.2.2.1)) else Bool.false)<|
 opt.need _ (p.rowOk a.1 (p.add a.2.2.2.1 (p.nat (p.ar .sub .i64 (p.ofNat a.2.2.2.2.1) (1:Int)))) [ci,ci])<|
 opt.need _ (bif (p.cmp .geq (p.ar .sub .i64 (p.ofNat a.2.2.2.2.1) (2:Int)) (0:Int)) then (p.cmp .lss (p.ar .sub .i64 (p.ofNat a.2.2.2.2.1) (2:Int)) (p.ofNat a.2.2.2.2.1)) else Bool.false)<|
 opt.need _ (p.rowOk a.1 (p.add a.2.2.2.1 (p.nat (p.ar .sub .i64 (p.ofNat a.2.2.2.2.1) (2:Int)))) [ci,ci])<|
 opt.need _ (bif (p.cmp .geq (p.ar .sub .i64 (p.ofNat a.2.2.2.2.1) (2:Int)) (0:Int)) then (p.cmp .lss (p.ar .sub .i64 (p.ofNat a.2.2.2.2.1) (2:Int)) (p.ofNat a.2.2.2.2.1)) else Bool.false)<|
 opt.need _ (p.rowOk a.1 (p.add a.2.2.2.1 (p.nat (p.ar .sub .i64 (p.ofNat a.2.2.2.2.1) (2:Int)))) [ci,ci])<|
 opt.ask _ (p.cmp .leq (p.ar .sub .i64 (p.ar .mul .i64 (p.ar .sub .i64 (p.rdI a.1 (p.add a.2.2.2.1 (p.nat (p.ar .sub .i64 (p.ofNat a.2.2.2.2.1) (1:Int)))) 0) (p.rdI a.1 (p.add a.2.2.2.1 (p.nat (p.ar .sub .i64 (p.ofNat a.2.2.2.2.1) (2:Int)))) 0)) (p.ar .sub .i64 a.2.2.1 (p.rdI a.1 (p.add a.2.2.2.1 (p.nat (p.ar .sub .i64 (p.ofNat a.2.2.2.2.1) (2:Int)))) 1))) (p.ar .mul .i64 (p.ar .sub .i64 (p.rdI a.1 (p.add a.2.2.2.1 (p.nat (p.ar .sub .i64 (p.ofNat a.2.2.2.2.1) (1:Int)))) 1) (p.rdI a.1 (p.add a.2.2.2.1 (p.nat (p.ar .sub .i64 (p.ofNat a.2.2.2.2.1) (2:Int)))) 1)) (p.ar .sub .i64 a.2.1 (p.rdI a.1 (p.add a.2.2.2.1 (p.nat (p.ar .sub .i64 (p.ofNat a.2.2.2.2.1) (2:Int)))) 0)))) (0:Int)) (
 opt.need _ (p.and (p.cmp .geq (0:Int) (0:Int)) (p.and (p.cmp .leq (0:Int) (p.ar .sub .i64 (p.ofNat a.2.2.2.2.1) (1:Int))) (p.and (p.cmp .leq (p.ar .sub .i64 (p.ofNat a.2.2.2.2.1) (1:Int)) (p.ar .sub .i64 (p.ofNat a.2.2.2.2.1) (1:Int))) (p.cmp .leq (p.ar .sub .i64 (p.ofNat a.2.2.2.2.1) (1:Int)) (p.ofNat a.2.2.2.2.1)))))<|
 opt.need _ (p.leN (p.add (p.add a.2.2.2.1 (p.nat (0:Int))) (p.sub (p.nat (p.ar .sub .i64 (p.ofNat a.2.2.2.2.1) (1:Int))) (p.nat (0:Int)))) (p.len a.1))<|
 opt.ret _ (Sum.inl (a.1,(a.2.1,(a.2.2.1,((p.add a.2.2.2.1 (p.nat (0:Int))),((p.sub (p.nat (p.ar .sub .i64 (p.ofNat a.2.2.2.2.1) (1:Int))) (p.nat (0:Int))),(a.2.2.2.2.2.1,(a.2.2.2.2.2.2.1,(a.2.2.2.2.2.2.2.1,())))))))))) (
 opt.ret _ (Sum.inr (a.1,(a.2.1,(a.2.2.1,(a.2.2.2.1,(a.2.2.2.2.1,(a.2.2.2.2.2.1,(a.2.2.2.2.2.2.1,(a.2.2.2.2.2.2.2.1,()))))))))))) (
 opt.ret _ (Sum.inr (a.1,(a.2.1,(a.2.2.1,(a.2.2.2.1,(a.2.2.2.2.1,(a.2.2.2.2.2.1,(a.2.2.2.2.2.2.1,(a.2.2.2.2.2.2.2.1,())))))))))))
def x8h (it:It) (p:Prim):(LD×(LD×T3))→Option ((LD×(LD×T3))⊕(LD×Unit)):=
 fun a=>opt.run _ (
 opt.ask _ (p.cmp .lss a.2.2.2.1 a.2.2.1) (
 opt.need _ (p.rowOk a.2.1 (p.nat a.2.2.2.1) [ci,ci])<|
 opt.need _ (p.cmp .geq a.2.2.2.1 (0:Int))<|
 opt.bnd ((LD×T29)) _ (
 it _ _ (y6e p) (a.1,((p.rdI a.2.1 (p.nat a.2.2.2.1) 0),((p.rdI a.2.1 (p.nat a.2.2.2.1) 1),(0,((p.len a.1),(a.2.1,(a.2.2.1,(a.2.2.2.1,()))))))))) fun b=>
 opt.need _ (p.and (p.leN (p.add 0 1) (p.len [[(D.int .i64 b.2.1),(D.int .i64 b.2.2.1)]])) (p.and (p.leN (p.add b.2.2.2.1 b.2.2.2.2.1) (p.len b.1)) (p.and (p.leN 1 1) (p.leN (p.add b.2.2.2.2.1 1) 1000000))))<|
 opt.need _ (p.eqN 0 0)<|
 opt.need _ (p.eqN (p.add b.2.2.2.2.1 1) (p.len (p.app (p.cut b.1 b.2.2.2.1 b.2.2.2.2.1) (p.cut [[(D.int .i64 b.2.1),(D.int .i64 b.2.2.1)]] 0 1))))<|
 opt.ret _ (Sum.inl ((p.app (p.cut b.1 b.2.2.2.1 b.2.2.2.2.1) (p.cut [[(D.int .i64 b.2.1),(D.int .i64 b.2.2.1)]] 0 1)),(b.2.2.2.2.2.1,(b.2.2.2.2.2.2.1,((p.ar .add .i64 b.2.2.2.2.2.2.2.1 (1:Int)),())))))) (
 opt.need _ (p.eqN 0 0)<|
 opt.need _ (p.eqN (p.len a.1) (p.len a.1))<|
 opt.ret _ (Sum.inr (a.1,()))))
def g88 (it:It):(p:Prim)→(LD×Unit)→Option ((LD×T9)):=
 fun p x=>
 opt.bnd ((LD×Unit)) _ (
 it _ _ (x8h it p) ([],(x.1,((p.ofNat (p.len x.1)),((0:Int),()))))) fun a=>
 opt.need _ (p.and (p.cmp .geq (0:Int) (0:Int)) (p.and (p.cmp .leq (0:Int) (p.ar .sub .i64 (p.ofNat (p.len a.1)) (1:Int))) (p.and (p.cmp .leq (p.ar .sub .i64 (p.ofNat (p.len a.1)) (1:Int)) (p.ar .sub .i64 (p.ofNat (p.len a.1)) (1:Int))) (p.cmp .leq (p.ar .sub .i64 (p.ofNat (p.len a.1)) (1:Int)) (p.ofNat (p.len a.1))))))<|
 opt.ret _ (a.1,((p.add 0 (p.nat (0:Int))),((p.sub (p.nat (p.ar .sub .i64 (p.ofNat (p.len a.1)) (1:Int))) (p.nat (0:Int))),((p.sub (p.nat (p.ar .sub .i64 (p.ofNat (p.len a.1)) (1:Int))) (p.nat (0:Int))),()))))
def G88:=g88 it0
theorem ok88:CtrOk PG v4n (G88 std):=okF (a:=an88) (l:=la88) (gN) (by kernel_rfl) fun _ _=>by kernel_rfl
def w6x:Ctr:=
 ⟨101,[.slc 0 2],[.row [ci,ci]],[(.ret,⟨[(0, .slc 0 2)],[.row [ci,ci]],1⟩)]⟩
def v8k:List LA:=
 [⟨101,[false,true,false,true,true],1,⟨⟨[(0, .slc 0 2),(3, .int .i64)],[.row [ci,ci]],61⟩,[(AX.ret,⟨[(2, .slc 0 2)],[.row [ci,ci]],61⟩),((AX.exit 0),⟨[(0, .slc 0 2)],[.row [ci,ci]],61⟩)]⟩⟩,
 ⟨101,[false,true,false,true,false,true,false,false,true,false,false,true,false,true,true],1,⟨⟨[(0, .slc 0 2),(3, .int .i64),(4, .slc 0 2),(5, .int .i64)],[.row [ci,ci]],61⟩,[((AX.exit 2),⟨[(0, .slc 0 2),(3, .int .i64)],[.row [ci,ci]],61⟩)]⟩⟩]
def v8q:List JA:=
 [⟨101,[true,false,false,true,false,false,true,false,true,false,true,false,false,true,false,false,true,false,true,true],1,[(AX.normal,⟨[(0, .slc 0 2),(3, .int .i64),(4, .slc 0 2),(5, .int .i64)],[.row [ci,ci]],61⟩)]⟩]
def v3y:List CF:=
 []
def u0z:Anns:=
 ⟨v3y,v8q,[]⟩
def y5q (p:Prim):(LD×T30)→Option ((LD×T30)⊕(LD×T31)):=
 fun a=>opt.run _ (
 opt.ask _ (p.cmp .lss a.2.2.2.2.2.2.2.2.1 (p.ofNat a.2.2.2.2.2.2.1)) (
 opt.need _ (bif (p.cmp .geq a.2.2.2.2.2.2.2.2.1 (0:Int)) then (p.cmp .lss a.2.2.2.2.2.2.2.2.1 (p.ofNat a.2.2.2.2.2.2.1)) else Bool.false)<|
 opt.need _ (p.rowOk a.1 (p.add a.2.2.2.2.2.1 (p.nat a.2.2.2.2.2.2.2.2.1)) [ci,ci])<|
 opt.need _ (bif (p.cmp .geq (p.ar .sub .i64 a.2.2.2.2.2.2.2.2.1 (1:Int)) (0:Int)) then (p.cmp .lss (p.ar .sub .i64 a.2.2.2.2.2.2.2.2.1 (1:Int)) (p.ofNat a.2.2.2.2.2.2.1)) else Bool.false)<|
 opt.need _ (p.rowOk a.1 (p.add a.2.2.2.2.2.1 (p.nat (p.ar .sub .i64 a.2.2.2.2.2.2.2.2.1 (1:Int)))) [ci,ci])<|
 opt.bnd ((LD×T30)) _ (
 opt.run ((LD×T30)) (
 opt.ask _ (bif (bif (p.cmp .eql (p.rdI a.1 (p.add a.2.2.2.2.2.1 (p.nat a.2.2.2.2.2.2.2.2.1)) 0) (p.rdI a.1 (p.add a.2.2.2.2.2.1 (p.nat (p.ar .sub .i64 a.2.2.2.2.2.2.2.2.1 (1:Int)))) 0)) then (bif (p.cmp .eql (p.rdI a.1 (p.add a.2.2.2.2.2.1 (p.nat a.2.2.2.2.2.2.2.2.1)) 1) (p.rdI a.1 (p.add a.2.2.2.2.2.1 (p.nat (p.ar .sub .i64 a.2.2.2.2.2.2.2.2.1 (1:Int)))) 1)) then Bool.true else Bool.false) else Bool.false) then Bool.false else Bool.true) (
 opt.need _ (bif (p.cmp .geq a.2.2.2.2.2.2.2.2.1 (0:Int)) then (p.cmp .lss a.2.2.2.2.2.2.2.2.1 (p.ofNat a.2.2.2.2.2.2.1)) else Bool.false)<|
 opt.need _ (p.rowOk a.1 (p.add a.2.2.2.2.2.1 (p.nat a.2.2.2.2.2.2.2.2.1)) [ci,ci])<|
 opt.need _ (bif (p.cmp .geq a.2.2.2.2.1 (0:Int)) then (p.cmp .lss a.2.2.2.2.1 (p.ofNat a.2.2.1)) else Bool.false)<|
 opt.need _ (p.rowOk a.1 (p.add a.2.1 (p.nat a.2.2.2.2.1)) [ci,ci])<|
 opt.ret _ ((p.set a.1 (p.add a.2.1 (p.nat a.2.2.2.2.1)) [(D.int .i64 (p.rdI a.1 (p.add a.2.2.2.2.2.1 (p.nat a.2.2.2.2.2.2.2.2.1)) 0)),(D.int .i64 (p.rdI a.1 (p.add a.2.2.2.2.2.1 (p.nat a.2.2.2.2.2.2.2.2.1)) 1))]),(a.2.1,(a.2.2.1,(a.2.2.2.1,((p.ar .add .i64 a.2.2.2.2.1 (1:Int)),(a.2.2.2.2.2.1,(a.2.2.2.2.2.2.1,(a.2.2.2.2.2.2.2.1,(a.2.2.2.2.2.2.2.2.1,())))))))))) (
 opt.ret _ (a.1,(a.2.1,(a.2.2.1,(a.2.2.2.1,(a.2.2.2.2.1,(a.2.2.2.2.2.1,(a.2.2.2.2.2.2.1,(a.2.2.2.2.2.2.2.1,(a.2.2.2.2.2.2.2.2.1,())))))))))))) fun b=>
 opt.ret _ (Sum.inl (b.1,(b.2.1,(b.2.2.1,(b.2.2.2.1,(b.2.2.2.2.1,(b.2.2.2.2.2.1,(b.2.2.2.2.2.2.1,(b.2.2.2.2.2.2.2.1,((p.ar .add .i64 b.2.2.2.2.2.2.2.2.1 (1:Int)),()))))))))))) (
 opt.ret _ (Sum.inr (a.1,(a.2.1,(a.2.2.1,(a.2.2.2.1,(a.2.2.2.2.1,()))))))))
def y29 (it:It) (p:Prim):(LD×T31)→Option ((LD×T31)⊕((LD×T9)⊕(LD×T9))):=
 fun a=>opt.run _ (
 opt.ask _ (p.cmp .lss a.2.2.2.2.1 (p.ofNat a.2.2.1)) (
 opt.need _ (bif (p.cmp .geq a.2.2.2.2.1 (0:Int)) then (p.cmp .lss a.2.2.2.2.1 (p.ofNat a.2.2.1)) else Bool.false)<|
 opt.need _ (p.rowOk a.1 (p.add a.2.1 (p.nat a.2.2.2.2.1)) [ci,ci])<|
 opt.need _ (bif (p.cmp .geq (p.ar .sub .i64 a.2.2.2.2.1 (1:Int)) (0:Int)) then (p.cmp .lss (p.ar .sub .i64 a.2.2.2.2.1 (1:Int)) (p.ofNat a.2.2.1)) else Bool.false)<|
 opt.need _ (p.rowOk a.1 (p.add a.2.1 (p.nat (p.ar .sub .i64 a.2.2.2.2.1 (1:Int)))) [ci,ci])<|
 opt.ask _ (bif (p.cmp .eql (p.rdI a.1 (p.add a.2.1 (p.nat a.2.2.2.2.1)) 0) (p.rdI a.1 (p.add a.2.1 (p.nat (p.ar .sub .i64 a.2.2.2.2.1 (1:Int)))) 0)) then (bif (p.cmp .eql (p.rdI a.1 (p.add a.2.1 (p.nat a.2.2.2.2.1)) 1) (p.rdI a.1 (p.add a.2.1 (p.nat (p.ar .sub .i64 a.2.2.2.2.1 (1:Int)))) 1)) then Bool.true else Bool.false) else Bool.false) (
 opt.need _ (p.and (p.cmp .geq a.2.2.2.2.1 (0:Int)) (p.and (p.cmp .leq a.2.2.2.2.1 (p.ofNat a.2.2.1)) (p.cmp .leq (p.ofNat a.2.2.1) (p.ofNat a.2.2.1))))<|
 opt.bnd ((LD×T31)) _ (
 it _ _ (y5q p) (a.1,(a.2.1,(a.2.2.1,(a.2.2.2.1,(a.2.2.2.2.1,((p.add a.2.1 (p.nat a.2.2.2.2.1)),((p.sub (p.nat (p.ofNat a.2.2.1)) (p.nat a.2.2.2.2.1)),((p.sub a.2.2.2.1 (p.nat a.2.2.2.2.1)),((1:Int),())))))))))) fun b=>
 opt.need _ (p.and (p.cmp .geq b.2.2.2.2.1 (0:Int)) (p.and (p.cmp .leq b.2.2.2.2.1 (p.ofNat b.2.2.1)) (p.cmp .leq (p.ofNat b.2.2.1) (p.ofNat b.2.2.1))))<|
 opt.need _ (p.leN (p.add (p.add b.2.1 (p.nat b.2.2.2.2.1)) (p.sub (p.nat (p.ofNat b.2.2.1)) (p.nat b.2.2.2.2.1))) (p.len b.1))<|
 opt.need _ (p.and (p.cmp .geq (0:Int) (0:Int)) (p.and (p.cmp .leq (0:Int) b.2.2.2.2.1) (p.cmp .leq b.2.2.2.2.1 (p.ofNat b.2.2.1))))<|
 opt.ret _ (Sum.inr (Sum.inl ((p.splice b.1 (p.add b.2.1 (p.nat b.2.2.2.2.1)) (p.rep (p.sub (p.nat (p.ofNat b.2.2.1)) (p.nat b.2.2.2.2.1)) [k4k,k4k])),((p.add b.2.1 (p.nat (0:Int))),((p.sub (p.nat b.2.2.2.2.1) (p.nat (0:Int))),((p.sub b.2.2.2.1 (p.nat (0:Int))),()))))))) (
 opt.ret _ (Sum.inl (a.1,(a.2.1,(a.2.2.1,(a.2.2.2.1,((p.ar .add .i64 a.2.2.2.2.1 (1:Int)),())))))))) (
 opt.ret _ (Sum.inr (Sum.inr (a.1,(a.2.1,(a.2.2.1,(a.2.2.2.1,()))))))))
def w9j (it:It):(p:Prim)→(LD×T9)→Option ((LD×T9)):=
 fun p x=>
 opt.ask _ (p.cmp .lss (p.ofNat x.2.2.1) (2:Int)) (
 opt.ret _ (x.1,(x.2.1,(x.2.2.1,(x.2.2.2.1,()))))) (
 opt.alt ((LD×T9)) ((LD×T9)) _ (
 it _ _ (y29 it p) (x.1,(x.2.1,(x.2.2.1,(x.2.2.2.1,((1:Int),())))))) (fun a=>
 opt.ret _ (a.1,(a.2.1,(a.2.2.1,(a.2.2.2.1,()))))) (fun b=>
 opt.bnd ((LD×T9)) _ (some b) fun c=>
 opt.ret _ (c.1,(c.2.1,(c.2.2.1,(c.2.2.2.1,()))))))
def v7i:=w9j it0
theorem v7x:CtrOk PG w6x (v7i std):=okF (a:=u0z) (l:=v8k) (gN) (by kernel_rfl) fun _ _=>by kernel_rfl
def v4p:Ctr:=
 ⟨86,[.list 2, .clo 87 [] []],[],[(.ret,⟨[(0, .slc 0 2)],[.row [ci,ci]],1⟩)]⟩
def la86:List LA:=
 []
def ja86:List JA:=
 []
def v9a:List CF:=
 [⟨w6x,v7i⟩,⟨x6g,u2m⟩]
def an86:Anns:=
 ⟨v9a,ja86,[]⟩
def g86 (it:It):(p:Prim)→(LD×Unit)→Option ((LD×T9)):=
 fun p x=>
 opt.need _ (p.and (p.cmp .geq (p.ofNat (p.len x.1)) (0:Int)) (p.and (p.cmp .leq (p.ofNat (p.len x.1)) (p.ofNat (p.len x.1))) (p.cmp .leq (p.ofNat (p.len x.1)) (1000000:Int))))<|
 opt.need _ (p.and Bool.true (p.and (p.leN (p.len x.1) (p.nat (p.ofNat (p.len x.1)))) (p.leN (p.add 0 (p.nat (p.ofNat (p.len x.1)))) (p.len (p.rep (p.nat (p.ofNat (p.len x.1))) [k4k,k4k])))))<|
 opt.need _ (p.eqN 0 0)<|
 opt.need _ (p.eqN (p.nat (p.ofNat (p.len x.1))) (p.len (p.splice (p.rep (p.nat (p.ofNat (p.len x.1))) [k4k,k4k]) 0 x.1)))<|
 opt.need _ (p.eqN (p.nat (p.ofNat (p.len x.1))) (p.len (p.splice (p.rep (p.nat (p.ofNat (p.len x.1))) [k4k,k4k]) 0 x.1)))<|
 opt.bnd ((LD×Unit)) _ (v30 it p ((p.splice (p.rep (p.nat (p.ofNat (p.len x.1))) [k4k,k4k]) 0 x.1),())) fun a=>
 opt.bnd ((LD×T9)) _ (w9j it p (a.1,(0,((p.nat (p.ofNat (p.len x.1))),((p.nat (p.ofNat (p.len x.1))),()))))) fun b=>
 opt.ret _ (b.1,(b.2.1,(b.2.2.1,(b.2.2.2.1,()))))
def G86:=g86 it0
theorem ok86:CtrOk PG v4p (G86 std):=okF (a:=an86) (l:=la86) (gC v7x (gC v7q (gN))) (by kernel_rfl) fun _ _=>by kernel_rfl
def v4m:Ctr:=
 ⟨89,[.slc 0 2],[.row [ci,ci]],[(.ret,⟨[(0, .tuple [])],[.row [ci,ci]],1⟩)]⟩
def la89:List LA:=
 [⟨89,[false,true],1,⟨⟨[(0, .slc 0 2),(2, .int .i64),(3, .int .i64)],[.row [ci,ci]],28⟩,[((AX.exit 0),⟨[],[.row [ci,ci]],28⟩)]⟩⟩]
def ja89:List JA:=
 []
def v87:List CF:=
 []
def an89:Anns:=
 ⟨v87,ja89,[]⟩
def w5l (p:Prim):(LD×T60)→Option ((LD×T60)⊕(LD×Unit)):=
 fun a=>opt.run _ (
 opt.ask _ (p.cmp .lss a.2.2.2.2.1 a.2.2.2.2.2.1) (
 opt.need _ (bif (p.cmp .geq a.2.2.2.2.2.1 (0:Int)) then (p.cmp .lss a.2.2.2.2.2.1 (p.ofNat a.2.2.1)) else Bool.false)<|
 opt.need _ (p.rowOk a.1 (p.add a.2.1 (p.nat a.2.2.2.2.2.1)) [ci,ci])<|
 opt.need _ (bif (p.cmp .geq a.2.2.2.2.1 (0:Int)) then (p.cmp .lss a.2.2.2.2.1 (p.ofNat a.2.2.1)) else Bool.false)<|
 opt.need _ (p.rowOk a.1 (p.add a.2.1 (p.nat a.2.2.2.2.1)) [ci,ci])<|
 opt.need _ (bif (p.cmp .geq a.2.2.2.2.1 (0:Int)) then (p.cmp .lss a.2.2.2.2.1 (p.ofNat a.2.2.1)) else Bool.false)<|
 opt.need _ (p.rowOk a.1 (p.add a.2.1 (p.nat a.2.2.2.2.1)) [ci,ci])<|
 opt.need _ (bif (p.cmp .geq a.2.2.2.2.2.1 (0:Int)) then (p.cmp .lss a.2.2.2.2.2.1 (p.ofNat a.2.2.1)) else Bool.false)<|
 opt.need _ (p.rowOk (p.set a.1 (p.add a.2.1 (p.nat a.2.2.2.2.1)) [(D.int .i64 (p.rdI a.1 (p.add a.2.1 (p.nat a.2.2.2.2.2.1)) 0)),(D.int .i64 (p.rdI a.1 (p.add a.2.1 (p.nat a.2.2.2.2.2.1)) 1))]) (p.add a.2.1 (p.nat a.2.2.2.2.2.1)) [ci,ci])<|
 opt.ret _ (Sum.inl ((p.set (p.set a.1 (p.add a.2.1 (p.nat a.2.2.2.2.1)) [(D.int .i64 (p.rdI a.1 (p.add a.2.1 (p.nat a.2.2.2.2.2.1)) 0)),(D.int .i64 (p.rdI a.1 (p.add a.2.1 (p.nat a.2.2.2.2.2.1)) 1))]) (p.add a.2.1 (p.nat a.2.2.2.2.2.1)) [(D.int .i64 (p.rdI a.1 (p.add a.2.1 (p.nat a.2.2.2.2.1)) 0)),(D.int .i64 (p.rdI a.1 (p.add a.2.1 (p.nat a.2.2.2.2.1)) 1))]),(a.2.1,(a.2.2.1,(a.2.2.2.1,((p.ar .add .i64 a.2.2.2.2.1 (1:Int)),((p.ar .sub .i64 a.2.2.2.2.2.1 (1:Int)),())))))))) (
 opt.ret _ (Sum.inr (a.1,()))))
def g89 (it:It):(p:Prim)→(LD×T9)→Option ((LD×Unit)):=
 fun p x=>
 opt.bnd ((LD×Unit)) _ (
 it _ _ (w5l p) (x.1,(x.2.1,(x.2.2.1,(x.2.2.2.1,((0:Int),((p.ar .sub .i64 (p.ofNat x.2.2.1) (1:Int)),()))))))) fun a=>
 opt.ret _ (a.1,())
def G89:=g89 it0
theorem ok89:CtrOk PG v4m (G89 std):=okF (a:=an89) (l:=la89) (gN) (by kernel_rfl) fun _ _=>by kernel_rfl
def w94:Ctr:=
 ⟨59,[.list 2],[],[(.ret,⟨[(0, .list 2)],[],1⟩)]⟩
def la59:List LA:=
 []
def ja59:List JA:=
 []
def v9p:List CF:=
 [⟨v4m,G89⟩,⟨v4n,G88⟩,⟨v4p,G86⟩]
def an59:Anns:=
 ⟨v9p,ja59,[]⟩
def g59 (it:It):(p:Prim)→(LD×Unit)→Option ((LD×Unit)):=
 fun p x=>
 opt.bnd ((LD×T9)) _ (g86 it p (x.1,())) fun a=>
 opt.ask _ (p.cmp .eql (p.ofNat a.2.2.1) (1:Int)) (
 opt.need _ (p.leN (p.add a.2.1 a.2.2.1) (p.len a.1))<|
 opt.ret _ ((p.cut a.1 a.2.1 a.2.2.1),())) (
 opt.need _ (p.and (p.leN (p.add a.2.1 a.2.2.1) (p.len a.1)) Bool.true)<|
 opt.bnd ((LD×T9)) _ (g88 it p ((p.cut a.1 a.2.1 a.2.2.1),())) fun b=>
 opt.need _ (p.plain b.1)<|
 opt.bnd ((LD×Unit)) _ (g89 it p (a.1,(a.2.1,(a.2.2.1,(a.2.2.2.1,()))))) fun c=>
 opt.need _ (p.and (p.leN (p.add a.2.1 a.2.2.1) (p.len c.1)) Bool.true)<|
 opt.bnd ((LD×T9)) _ (g88 it p ((p.cut c.1 a.2.1 a.2.2.1),())) fun d=>
 opt.need _ (p.plain d.1)<|
 opt.ask _ (p.leN (p.add b.2.2.1 d.2.2.1) b.2.2.2.1) (
 opt.need _ (p.and (p.leN (p.add d.2.1 d.2.2.1) (p.len d.1)) (p.and (p.leN (p.add b.2.1 b.2.2.1) (p.len b.1)) (p.and (p.leN 1 d.2.2.1) (p.leN (p.add b.2.1 b.2.2.2.1) (p.len b.1)))))<|
 opt.need _ (p.leN (p.add b.2.1 (p.add b.2.2.1 d.2.2.1)) (p.len (p.splice b.1 (p.add b.2.1 b.2.2.1) (p.cut d.1 d.2.1 d.2.2.1))))<|
 opt.ret _ ((p.cut (p.splice b.1 (p.add b.2.1 b.2.2.1) (p.cut d.1 d.2.1 d.2.2.1)) b.2.1 (p.add b.2.2.1 d.2.2.1)),())) (
 opt.need _ (p.and (p.leN (p.add d.2.1 d.2.2.1) (p.len d.1)) (p.and (p.leN (p.add b.2.1 b.2.2.1) (p.len b.1)) (p.and (p.leN 1 d.2.2.1) (p.leN (p.add b.2.2.1 d.2.2.1) 1000000))))<|
 opt.need _ (p.leN (p.add 0 (p.add b.2.2.1 d.2.2.1)) (p.len (p.app (p.cut b.1 b.2.1 b.2.2.1) (p.cut d.1 d.2.1 d.2.2.1))))<|
 opt.ret _ ((p.cut (p.app (p.cut b.1 b.2.1 b.2.2.1) (p.cut d.1 d.2.1 d.2.2.1)) 0 (p.add b.2.2.1 d.2.2.1)),())))
def G59:=g59 it0
theorem u1m:CtrOk PG w94 (G59 std):=okF (a:=an59) (l:=la59) (gC ok89 (gC ok88 (gC ok86 (gN)))) (by kernel_rfl) fun _ _=>by kernel_rfl
end Go.Am
end
section
namespace Go.Am
open M06
theorem it0_eq {S R:Type} (b:S→Option (S⊕R)) (s:S):it0 S R b s=z4n b s:=rfl
def x8p (q l:List Pt):Prop:=q.Pairwise Lt∧∀ x,x∈q↔x∈l
theorem z0q {α:Type} {l:List α} {i:Nat} {x:α} (h:l[i]?=some x):l.take (i+1)=l.take i++[x]:=by
 rw [List.take_add_one,h]; rfl
theorem x0c {q l:List Pt} {i:Nat} {x:Pt} (h:x8p q (l.take i)) (hx:l[i]?=some x) (hy:x∈l.take i):x8p q (l.take (i+1)):=by
 refine ⟨h.1,fun z=>?_⟩
 rw [h.2 z,z0q hx]
 simp only [List.mem_append,List.mem_singleton]
 exact ⟨.inl,fun h=>h.elim id fun e=>e▸hy⟩
theorem x0d {q l:List Pt} {i:Nat} {x y:Pt} (hs:l.Pairwise (fun a b=>¬ Lt b a)) (h:x8p q (l.take (i+1))) (hy:l[i]?=some y) (hx:l[i+1]?=some x) (hne:x≠y):x8p (q++[x]) (l.take (i+2)):=by
 have hs':=List.pairwise_iff_getElem.1 hs
 obtain ⟨i1,e1⟩:=List.getElem?_eq_some_iff.1 hx
 obtain ⟨i0,e0⟩:=List.getElem?_eq_some_iff.1 hy
 have hlt:Lt y x:=by
  have:=hs' i (i+1) i0 i1 (by omega)
  rw [e0,e1] at this
  rcases x1o y x with h|h|h
  ·exact h
  ·exact absurd h.symm hne
  ·exact absurd h this
 refine ⟨List.pairwise_append.2 ⟨h.1,by simp,fun a ha b hb=>?_⟩,fun z=>?_⟩
 ·simp at hb; subst hb
  have ha':=(h.2 a).1 ha
  obtain ⟨j,hj⟩:=List.getElem?_of_mem ha'
  have hj1:j<i+1:=by
   have:=(List.getElem?_eq_some_iff.1 hj).1
   rw [List.length_take] at this; omega
  rw [List.getElem?_take_of_lt hj1] at hj
  obtain ⟨j0,ej⟩:=List.getElem?_eq_some_iff.1 hj
  by_cases hji:j=i
  ·subst hji
   rw [e0] at ej; subst ej; exact hlt
  ·have:=hs' j i j0 i0 (by omega)
   rw [ej,e0] at this
   rcases x1o a y with h|h|h
   ·exact h.trans hlt
   ·exact h▸hlt
   ·exact absurd h this
 ·rw [z0q hx]
  simp only [List.mem_append,List.mem_singleton,h.2 z]
theorem x57 {p q:Pt}:(p.1=q.1∧p.2=q.2)↔p=q:=⟨fun h=>Prod.ext h.1 h.2,fun h=>by rw [h]; exact ⟨rfl,rfl⟩⟩
theorem z0w {l:List Pt} {i:Nat} {p:Pt} (h:l[i]?=some p):(z0d l)[i]?=some (eP p):=by simp [z0d,h]
theorem z0i (l:List Pt) (i:Nat) (p:Pt):(z0d l).set i (eP p)=z0d (l.set i p):=by simp [z0d,List.map_set]
theorem z0c (l:List Pt):(z0d l).length=l.length:=by simp [z0d]
theorem z1f (p:Pt):[D.int IntKind.i64 p.1,D.int IntKind.i64 p.2]=eP p:=rfl
theorem x8s {l:List Pt} (hs:l.Pairwise (fun a b=>¬ Lt b a)) (hn:l.length≤1000000) {k0:Nat} (hk1:1≤k0) (hk0:k0<l.length) (h0:x8p (l.take k0) (l.take (k0+1))) (cap:Nat):
  ∃ (L:List Pt) (k:Nat),z4n (y5q std) (z0d l,(0:Nat),l.length,cap,(k0:Int),k0,l.length - k0,cap - k0,(1:Int),())=some (z0d L,(0:Nat),l.length,cap,(k:Int),())∧L.length=l.length∧1≤k∧k≤l.length∧x8p (L.take k) l:=by
 have key:=z34 (b:=y5q std) (l.length - k0) (fun (t:List Pt×Nat) (i:Nat)=>(z0d t.1,(0:Nat),l.length,cap,(t.2:Int),k0,l.length - k0,cap - k0,(i:Int),()))
  (fun t i=>1≤i∧t.1.length=l.length∧1≤t.2∧t.2≤k0+i - 1∧(∀ j,k0+i - 1≤j→t.1[j]?=l[j]?)∧x8p (t.1.take t.2) (l.take (k0+i)))
  (fun r=>∃ (L:List Pt) (k:Nat),r=(z0d L,(0:Nat),l.length,cap,(k:Int),())∧L.length=l.length∧1≤k∧k≤l.length∧x8p (L.take k) l) ?_ ?_ (l,k0) 1 (by omega) ⟨Nat.le_refl _,rfl,hk1,by omega,fun _ _=>rfl,h0⟩
 ·obtain ⟨r,hr,L,k,rfl,h1,h2,h3,h4⟩:=key
  exact ⟨L,k,hr,h1,h2,h3,h4⟩
 ·rintro ⟨L,k⟩ i hi ⟨hi1,hL,hk,hki,hrest,hu⟩
  simp only at hL hk hki hrest hu
  left
  obtain ⟨x,hx⟩:=z0l (l:=l) (i:=k0+i) (by omega)
  obtain ⟨y,hy⟩:=z0l (l:=l) (i:=k0+i - 1) (by omega)
  have hLx:L[k0+i]?=some x:=by rw [hrest _ (by omega)]; exact hx
  have hLy:L[k0+(i - 1)]?=some y:=by
   have e:k0+(i - 1)=k0+i - 1:=by omega
   rw [e,hrest _ (by omega)]; exact hy
  have hLk:∃ z,L[k]?=some z:=z0l (by omega)
  obtain ⟨z,hz⟩:=hLk
  have c1:(i:Int)<((l.length - k0:Nat):Int):=by omega
  have c2:(i:Int)≥0:=by omega
  have c3:(i:Int) - 1≥0:=by omega
  have c4:(i:Int) - 1<((l.length - k0:Nat):Int):=by omega
  have hw:=z04 (i:=i) (by omega)
  have hwk:=z04 (i:=k) (by omega)
  have hw1:IntKind.i64.wrap ((i:Int) - 1)=((i - 1:Nat):Int):=by rw [z00]<;>omega
  have c3':((i - 1:Nat):Int)≥0:=by omega
  have c4':((i - 1:Nat):Int)<((l.length - k0:Nat):Int):=by omega
  have c5:(k:Int)≥0:=by omega
  have c6:(k:Int)<(l.length:Int):=by omega
  have gx:=z0w hLx
  have gy:=z0w hLy
  have gz:=z0w hz
  have ey:l[k0+i - 1]?=some y:=hy
  have e1:k0+i - 1+1=k0+i:=by omega
  by_cases hxy:x=y
  ·refine ⟨(L,k),?_,by omega,hL,hk,by omega,fun j hj=>hrest j (by omega),?_⟩
   ·have:=x57.2 hxy
    simp only [y5q,z0u,z0v,z0g,z0z,z0y,z1f,z0i,z0c,z0k,z0b,hw,hw1,c1,c2,c3',c4',gx,gy,this.1,this.2]
   ·have hm:x∈l.take (k0+i):=by
     rw [hxy]
     have:(l.take (k0+i))[k0+i - 1]?=some y:=by rw [List.getElem?_take_of_lt (by omega)]; exact hy
     exact List.mem_of_getElem? this
    exact x0c hu hx hm
  ·refine ⟨(L.set k x,k+1),?_,by omega,by simpa using hL,by omega,by omega,fun j hj=>?_,?_⟩
   ·by_cases k1:x.1=y.1
    ·have k2:¬ x.2=y.2:=fun h=>hxy (x57.1 ⟨k1,h⟩)
     simp only [y5q,z0u,z0v,z0g,z0z,z0y,z1f,z0i,z0c,z0k,z0b,hw,hw1,hwk,c1,c2,c3',c4',c5,c6,gx,gy,gz,eq_true k1,eq_false k2]
    ·simp only [y5q,z0u,z0v,z0g,z0z,z0y,z1f,z0i,z0c,z0k,z0b,hw,hw1,hwk,c1,c2,c3',c4',c5,c6,gx,gy,gz,eq_false k1]
   ·simp only at hj⊢
    rw [List.getElem?_set_ne (by omega)]; exact hrest j (by omega)
   ·simp only
    have ht:(L.set k x).take (k+1)=L.take k++[x]:=by
     rw [List.take_add_one,List.take_set_of_le (Nat.le_refl _),List.getElem?_set_self (by omega)]; rfl
    rw [ht]
    have hu':x8p (L.take k) (l.take (k0+i - 1+1)):=by rw [e1]; exact hu
    have:=x0d hs hu' hy (by rw [e1]; exact hx) hxy
    have e2:k0+i - 1+2=k0+(i+1):=by omega
    rw [e2] at this; exact this
 ·rintro ⟨L,k⟩ ⟨hi1,hL,hk,hki,hrest,hu⟩
  simp only at hL hk hki hrest hu
  have hn:¬ (((l.length - k0:Nat):Int)<((l.length - k0:Nat):Int)):=by omega
  refine ⟨(z0d L,(0:Nat),l.length,cap,(k:Int),()),?_,L,k,rfl,hL,hk,by omega,?_⟩
  ·simp only [y5q,z0u,z0v,hn]
  ·have e:k0+(l.length - k0)=l.length:=by omega
   rw [e,List.take_length] at hu; exact hu
theorem v01 {l:List Pt} (hs:l.Pairwise (fun a b=>¬ Lt b a)) (hn:l.length≤1000000):
  ∃ (L:List Pt) (m:Nat),v7i std (z0d l,(0:Nat),l.length,l.length,())=some (z0d L,(0:Nat),m,l.length,())∧L.length=l.length∧m≤l.length∧x8p (L.take m) l:=by
 unfold v7i
 by_cases h2:l.length<2
 ·refine ⟨l,l.length,?_,rfl,Nat.le_refl _,?_⟩
  ·have:(l.length:Int)<2:=by omega
   simp only [w9j,z0u,z0v,this]
  ·rw [List.take_length]
   refine ⟨?_,fun _=>Iff.rfl⟩
   match l,h2 with
   |[],_=>exact .nil
   |[a],_=>simp
   |a::b::r,h2=>simp at h2; omega
 have h2':¬ (l.length:Int)<2:=by omega
 have key:=z34 (b:=y29 it0 std) l.length (fun (_:Unit) (i:Nat)=>(z0d l,(0:Nat),l.length,l.length,(i:Int),()))
  (fun _ i=>1≤i∧x8p (l.take i) (l.take i))
  (fun r=>∃ (L:List Pt) (m:Nat),(r= .inl (z0d L,(0:Nat),m,l.length,())∨r= .inr (z0d L,(0:Nat),m,l.length,()))∧L.length=l.length∧m≤l.length∧x8p (L.take m) l) ?_ ?_ () 1 (by omega) ⟨Nat.le_refl _,?_⟩
 ·obtain ⟨r,hr,L,m,h,h3,h4,h5⟩:=key
  refine ⟨L,m,?_,h3,h4,h5⟩
  simp only [w9j,it0_eq,z0u,z0v,h2']
  have e0:((1:Nat):Int)=1:=rfl
  rw [e0] at hr
  rw [hr]
  rcases h with rfl|rfl<;>rfl
 ·rintro _ i hi ⟨hi1,hu⟩
  obtain ⟨x,hx⟩:=z0l (l:=l) (i:=i) hi
  obtain ⟨y,hy⟩:=z0l (l:=l) (i:=i - 1) (by omega)
  have c1:(i:Int)<(l.length:Int):=by omega
  have c2:(i:Int)≥0:=by omega
  have hw:=z04 (i:=i) (by omega)
  have hw1:IntKind.i64.wrap ((i:Int) - 1)=((i - 1:Nat):Int):=by rw [z00]<;>omega
  have c3':((i - 1:Nat):Int)≥0:=by omega
  have c4':((i - 1:Nat):Int)<(l.length:Int):=by omega
  have gx:=z0w hx
  have gy:=z0w hy
  have e1:i - 1+1=i:=by omega
  by_cases hxy:x=y
  ·right
   have hm:x∈l.take i:=by
    rw [hxy]
    have:(l.take i)[i - 1]?=some y:=by rw [List.getElem?_take_of_lt (by omega)]; exact hy
    exact List.mem_of_getElem? this
   obtain ⟨L,k,hit,hL,hk,hkl,hU⟩:=x8s hs hn hi1 hi (x0c hu hx hm) l.length
   have d1:(k:Int)≥0:=by omega
   have d2:(k:Int)≤(l.length:Int):=by omega
   have d3:k+(l.length - k)≤l.length:=by omega
   have c5:(i:Int)≤(l.length:Int):=by omega
   have c6:(l.length:Int)≤(l.length:Int):=by omega
   have c7:(0:Int)≥0:=by omega
   have c8:(0:Int)≤(k:Int):=by omega
   have:=x57.2 hxy
   have hz:[D.int IntKind.i64 (0:Int),D.int IntKind.i64 (0:Int)]=eP (0,0):=rfl
   have hsp:z0d L=z0d L:=rfl
   refine ⟨.inl (z0d (L.take k++List.replicate (l.length - k) (0,0)++L.drop (k+(l.length - k))),(0:Nat),k,l.length,()),?_,_,_, .inl rfl,?_,hkl,?_⟩
   ·simp only [y29,it0_eq,z0u,z0v,z0g,z0z,z0y,z1f,z0i,z0c,z0k,z0b,hw,hw1,c1,c2,c3',c4',c5,c6,c7,c8,d1,d2,d3,gx,gy,this.1,this.2,hit,hL,Int.toNat_zero,Nat.sub_zero,hz,List.length_replicate,Nat.add_zero]
    simp [z0d]
   ·simp [hL]; omega
   ·rw [List.take_append_of_le_length (by simp; omega),List.take_append_of_le_length (by simp; omega),List.take_take,Nat.min_self]
    exact hU
  ·left
   refine ⟨(),?_,by omega,?_⟩
   ·by_cases k1:x.1=y.1
    ·have k2:¬ x.2=y.2:=fun h=>hxy (x57.1 ⟨k1,h⟩)
     simp only [y29,it0_eq,z0u,z0v,z0g,z0z,z0y,z1f,z0i,z0c,z0k,z0b,hw,hw1,c1,c2,c3',c4',gx,gy,k1,k2]
    ·simp only [y29,it0_eq,z0u,z0v,z0g,z0z,z0y,z1f,z0i,z0c,z0k,z0b,hw,hw1,c1,c2,c3',c4',gx,gy,k1]
   ·have hu':x8p (l.take i) (l.take (i - 1+1)):=by rw [e1]; exact hu
    have:=x0d hs hu' hy (by rw [e1]; exact hx) hxy
    have e2:i - 1+2=i+1:=by omega
    rw [e2] at this
    rw [z0q hx] at this⊢
    exact this
 ·rintro _ ⟨hi1,hu⟩
  have hnn:¬ ((l.length:Int)<(l.length:Int)):=by omega
  refine ⟨.inr (z0d l,(0:Nat),l.length,l.length,()),?_,l,l.length, .inr rfl,rfl,Nat.le_refl _,?_⟩
  ·simp only [y29,it0_eq,z0u,z0v,hnn]
  ·rw [List.take_length] at hu⊢; exact hu
 ·match l,h2 with
  |a::r,_=>exact ⟨by simp,fun _=>Iff.rfl⟩
  |[],h2=>exact absurd (by simp) h2
end Go.Am
end
section
namespace M06
def far (a b:Pt):Int:=dt (sb a b) (sb a b)
def Nx (S:List Pt) (a b:Pt):Prop:=b∈S∧a≠b∧∀ x∈S,0≤cr a b x∧(cr a b x=0→0≤dt (sb b a) (sb x a)∧far a x≤far a b)
def Pth (S:List Pt):List Pt→Prop
 |a::b::l=>Nx S a b∧Pth S (b::l)
 |_=>True
def Cyc (S:List Pt):List Pt→Prop
 |[]=>False
 |c0::r=>c0∈S∧(∀ x∈S,Le c0 x)∧((r=[]∧∀ x∈S,x=c0)∨(r≠[]∧Pth S (c0::r++[c0])∧c0∉r))
theorem Pth.tail {S:List Pt} {a:Pt} {l:List Pt} (h:Pth S (a::l)):Pth S l:=by
 match l,h with
 |[],_=>trivial
 |_::_,h=>exact h.2
theorem y8h {S:List Pt} {m:Pt}:∀ {l r:List Pt},Pth S (l++[m])→Pth S (m::r)→Pth S (l++m::r)
 |[],r,_,h=>h
 |[a],r,h1,h2=>⟨h1.1,h2⟩
 |a::b::l,r,h1,h2=>⟨h1.1,y8h (l:=b::l) h1.2 h2⟩
theorem v0o {s t x:Pt} (hst:Lt s t) (h1:Le s x) (h2:Le x t) (hc:cr s t x=0):0≤dt (sb t s) (sb x s)∧far s x≤far s t:=by
 rcases h1 with rfl|h1
 ·refine ⟨by simp [dt,sb],?_⟩
  simp only [far,dt,sb]
  have a:=sqn (s.1 - t.1)
  have b:=sqn (s.2 - t.2)
  simp; omega
 obtain ⟨s1,s2⟩:=s; obtain ⟨t1,t2⟩:=t; obtain ⟨x1,x2⟩:=x
 simp only [Lt,Le,Pos,sb,cr,crs,far,dt,Prod.mk.injEq] at*
 generalize hT1:t1 - s1=T1 at*
 generalize hT2:t2 - s2=T2 at*
 generalize hX1:x1 - s1=X1 at*
 generalize hX2:x2 - s2=X2 at*
 have e1:s1 - x1= -X1:=by omega
 have e2:s2 - x2= -X2:=by omega
 have e3:s1 - t1= -T1:=by omega
 have e4:s2 - t2= -T2:=by omega
 rw [e1,e2,e3,e4]
 have k1:0≤T1:=by omega
 have k2:0≤X1∧X1≤T1:=by omega
 rcases Int.lt_or_eq_of_le k1 with hp|hz
 ·have q1:0≤X1*T1:=Int.mul_nonneg k2.1 k1
  have hcc:T1*X2=T2*X1:=by omega
  have q3:X1*X1≤T1*T1:=Int.mul_le_mul k2.2 k2.2 k2.1 k1
  have q2:(T2*X2)*T1=T2*T2*X1:=by grind
  have q4:0≤T2*T2*X1:=Int.mul_nonneg (sqn _) k2.1
  have q5:0≤T2*X2:=by
   refine Classical.byContradiction fun hn=>?_
   have:=Int.mul_neg_of_neg_of_pos (Int.not_le.1 hn) hp
   omega
  have q6:(X2*X2)*(T1*T1)=(T2*T2)*(X1*X1):=by grind
  have q7:(T2*T2)*(X1*X1)≤(T2*T2)*(T1*T1):=Int.mul_le_mul_of_nonneg_left q3 (sqn _)
  have q8:0<T1*T1:=Int.mul_pos hp hp
  have q9:X2*X2≤T2*T2:=by
   refine Classical.byContradiction fun hn=>?_
   have:=Int.mul_lt_mul_of_pos_right (Int.not_le.1 hn) q8
   omega
  refine ⟨?_,?_⟩
  ·have:T1*X1=X1*T1:=Int.mul_comm _ _
   omega
  ·simp only [Int.neg_mul_neg]; omega
 ·have hX:X1=0:=by omega
  subst hX
  rw [←hz]
  have r1:0≤X2:=by omega
  have r2:X2≤T2:=by omega
  have r3:0≤T2:=by omega
  refine ⟨?_,?_⟩
  ·have:=Int.mul_nonneg r3 r1; simp; exact this
  ·simp only [Int.neg_mul_neg]
   have:=Int.mul_le_mul r2 r2 r1 r3
   simp; omega
theorem y42 {S:List Pt}:∀ {st:List Pt},x23 st→(∀ x∈S,w56 st x)→(∀ y∈st,y∈S)→Pth S st.reverse
 |[],_,_,_=>trivial
 |[_],_,_,_=>trivial
 |t::s::r,hd,he,hs=>by
  have ih:=y42 (st:=s::r) hd.2 (fun x hx=>(he x hx).2) (fun y hy=>hs y (List.mem_cons_of_mem _ hy))
  rw [List.reverse_cons,List.reverse_cons] at*
  rw [List.append_assoc]
  refine y8h ih ⟨⟨hs t (by simp),hd.1.ne,fun x hx=>?_⟩,trivial⟩
  have e:=(he x hx).1
  exact ⟨e.1,fun h0=>v0o hd.1 (e.2 h0).1 (e.2 h0).2 h0⟩
def ng (a:Pt):Pt:=(-a.1, -a.2)
theorem x1j (a:Pt):ng (ng a)=a:=by simp [ng]
theorem w8i (a b c:Pt):cr (ng a) (ng b) (ng c)=cr a b c:=by simp only [cr,crs,sb,ng]; grind
theorem w8h (a b:Pt):Lt (ng a) (ng b)↔Lt b a:=by simp only [Lt,Pos,sb,ng]; omega
theorem w6j (a b:Pt):far (ng a) (ng b)=far a b:=by simp only [far,dt,sb,ng]; grind
theorem v71 (a b c:Pt):dt (sb (ng b) (ng a)) (sb (ng c) (ng a))=dt (sb b a) (sb c a):=by simp only [dt,sb,ng]; grind
theorem w6i {a b:Pt} (h:ng a=ng b):a=b:=by rw [←x1j a,h,x1j]
theorem w6d (p:Pt):∀ st:List Pt,pop (ng p) (st.map ng)=(pop p st).map ng
 |[]=>by simp [pop]
 |[t]=>by simp [y44]
 |t::s::r=>by
  have ih:=w6d p (s::r)
  simp only [List.map_cons] at ih⊢
  by_cases h:cr s t p≤0
  ·rw [y2k p h,y2k (ng p) (by rw [w8i]; exact h),ih]
  ·rw [y2j p h,y2j (ng p) (by rw [w8i]; exact h)]; rfl
theorem w0u:∀ (l st:List Pt),(l.map ng).foldl push (st.map ng)=(l.foldl push st).map ng
 |[],_=>rfl
 |p::l,st=>by
  simp only [List.map_cons,List.foldl_cons]
  rw [←w0u l (push st p)]
  congr 1
  simp only [push,List.map_cons,w6d]
theorem v7y {S:List Pt} {a b:Pt} (h:Nx (S.map ng) (ng a) (ng b)):Nx S a b:=by
 obtain ⟨h1,h2,h3⟩:=h
 refine ⟨?_,fun e=>h2 (by rw [e]),fun x hx=>?_⟩
 ·obtain ⟨y,hy,e⟩:=List.mem_map.1 h1
  rw [←w6i e]; exact hy
 ·have:=h3 (ng x) (List.mem_map.2 ⟨x,hx,rfl⟩)
  rwa [w8i,w6j,w6j,v71] at this
theorem w6c {S:List Pt}:∀ {l:List Pt},Pth (S.map ng) (l.map ng)→Pth S l
 |[],_=>trivial
 |[_],_=>trivial
 |a::b::l,h=>⟨v7y h.1,w6c (l:=b::l) h.2⟩
end M06
end
section
namespace Go.Am
open M06
theorem y4t {s t p:Pt} (hs:z1e s) (ht:z1e t) (hp:z1e p):
  IntKind.i64.wrap (t.1 - s.1)=t.1 - s.1∧IntKind.i64.wrap (t.2 - s.2)=t.2 - s.2∧IntKind.i64.wrap (p.1 - s.1)=p.1 - s.1∧IntKind.i64.wrap (p.2 - s.2)=p.2 - s.2∧
  IntKind.i64.wrap ((t.1 - s.1)*(p.2 - s.2))=(t.1 - s.1)*(p.2 - s.2)∧IntKind.i64.wrap ((t.2 - s.2)*(p.1 - s.1))=(t.2 - s.2)*(p.1 - s.1)∧
  IntKind.i64.wrap ((t.1 - s.1)*(p.2 - s.2) - (t.2 - s.2)*(p.1 - s.1))=cr s t p:=by
 obtain ⟨a1,a2,a3,a4⟩:=hs
 obtain ⟨b1,b2,b3,b4⟩:=ht
 obtain ⟨c1,c2,c3,c4⟩:=hp
 have big:∀ {a b:Int}, -2097152≤a→a≤2097152→ -2097152≤b→b≤2097152→ -4398046511104≤a*b∧a*b≤4398046511104:=by
  intro a b h1 h2 h3 h4
  have e1:=Int.mul_nonneg (show 0≤2097152 - a by omega) (show 0≤2097152 - b by omega)
  have e2:=Int.mul_nonneg (show 0≤2097152+a by omega) (show 0≤2097152+b by omega)
  have e3:=Int.mul_nonneg (show 0≤2097152 - a by omega) (show 0≤2097152+b by omega)
  have e4:=Int.mul_nonneg (show 0≤2097152+a by omega) (show 0≤2097152 - b by omega)
  simp only [Int.sub_mul,Int.add_mul,Int.mul_sub,Int.mul_add] at e1 e2 e3 e4
  omega
 have m1:=big (a:=t.1 - s.1) (b:=p.2 - s.2) (by omega) (by omega) (by omega) (by omega)
 have m2:=big (a:=t.2 - s.2) (b:=p.1 - s.1) (by omega) (by omega) (by omega) (by omega)
 refine ⟨?_,?_,?_,?_,?_,?_,?_⟩
 any_goals (rw [z00]<;>omega)
 rw [z00 _ (by omega) (by omega)]
 rfl
theorem w3r {L:List Pt} {p:Pt} (hp:z1e p) (hL:∀ x∈L,z1e x) (hLn:L.length≤1000000) (les:List (List D)) (n i:Int):
  ∀ (k:Nat) (s tl:List Pt),s.length=k→L=s.reverse++tl→
   z4n (y6e std) (z0d L,p.1,p.2,(0:Nat),s.length,les,n,i,())=some (z0d L,p.1,p.2,(0:Nat),(pop p s).length,les,n,i,()):=by
 intro k
 induction k with
 |zero=>
  intro s tl hk hl
  have:s=[]:=List.length_eq_zero_iff.1 hk
  subst this
  rw [z0h]
  have hn:¬ ((0:Nat):Int)>1:=by omega
  have:y6e std (z0d L,p.1,p.2,(0:Nat),([]:List Pt).length,les,n,i,())=some (.inr (z0d L,p.1,p.2,(0:Nat),0,les,n,i,())):=by
   simp only [y6e,z0u,z0v,hn]
  rw [this]
  have:pop p []=[]:=by simp [pop]
  rw [this]; rfl
 |succ k ih=>
  intro s tl hk hl
  match s,hk,hl with
  |[t],hk,hl=>
   rw [z0h]
   have hn:¬ ((1:Nat):Int)>1:=by omega
   have:y6e std (z0d L,p.1,p.2,(0:Nat),[t].length,les,n,i,())=some (.inr (z0d L,p.1,p.2,(0:Nat),1,les,n,i,())):=by
    simp only [y6e,z0u,z0v,hn]
   rw [this,y44]; rfl
  |t::s::r,hk,hl=>
   rw [z0h]
   have hlen:(t::s::r).length=r.length+2:=rfl
   rw [hlen]
   have hLl:L.length=r.length+2+tl.length:=by rw [hl]; simp; omega
   have ht:L[r.length+1]?=some t:=by
    rw [hl]
    simp only [List.reverse_cons,List.append_assoc,List.cons_append,List.nil_append]
    rw [List.getElem?_append_right (by simp)]
    simp
   have hs:L[r.length]?=some s:=by
    rw [hl]
    simp only [List.reverse_cons,List.append_assoc,List.cons_append,List.nil_append]
    rw [List.getElem?_append_right (by simp)]
    simp
   have gt:=z0w ht
   have gs:=z0w hs
   obtain ⟨w1,w2,w3,w4,w5,w6,w7⟩:=y4t (hL s (List.mem_of_getElem? hs)) (hL t (List.mem_of_getElem? ht)) hp
   have c1:((r.length+2:Nat):Int)>1:=by omega
   have v1:IntKind.i64.wrap (((r.length+2:Nat):Int) - 1)=((r.length+1:Nat):Int):=by rw [z00]<;>omega
   have v2:IntKind.i64.wrap (((r.length+2:Nat):Int) - 2)=(r.length:Int):=by rw [z00]<;>omega
   have c2:((r.length+1:Nat):Int)≥0:=by omega
   have c3:((r.length+1:Nat):Int)<((r.length+2:Nat):Int):=by omega
   have c4:(r.length:Int)≥0:=by omega
   have c5:(r.length:Int)<((r.length+2:Nat):Int):=by omega
   have c6:(0:Int)≤((r.length+1:Nat):Int):=by omega
   have c7:((r.length+1:Nat):Int)≤((r.length+2:Nat):Int):=by omega
   have c8:r.length+1≤L.length:=by omega
   have c9:(0:Int)≥0:=by omega
   have c10:((r.length+1:Nat):Int)≤((r.length+1:Nat):Int):=by omega
   by_cases hc:cr s t p≤0
   ·have hb:y6e std (z0d L,p.1,p.2,(0:Nat),r.length+2,les,n,i,())=some (.inl (z0d L,p.1,p.2,(0:Nat),r.length+1,les,n,i,())):=by
     simp only [y6e,z0u,z0v,z0g,z0z,z0y,z1f,z0i,z0c,z0k,z08,v1,v2,c1,c2,c3,c4,c5,c6,c7,c8,c9,c10,gt,gs,w1,w2,w3,w4,w5,w6,w7,hc,Int.toNat_zero,Nat.sub_zero,Nat.add_zero]
    rw [hb,y2k p hc]
    exact ih (s::r) (t::tl) (by simpa using hk) (by rw [hl]; simp)
   ·have hb:y6e std (z0d L,p.1,p.2,(0:Nat),r.length+2,les,n,i,())=some (.inr (z0d L,p.1,p.2,(0:Nat),r.length+2,les,n,i,())):=by
     simp only [y6e,z0u,z0v,z0g,z0z,z0y,z1f,z0i,z0c,z0k,z08,v1,v2,c1,c2,c3,c4,c5,c6,c7,c8,c9,c10,gt,gs,w1,w2,w3,w4,w5,w6,w7,hc,Int.toNat_zero,Nat.sub_zero,Nat.add_zero]
    rw [hb,y2j p hc]; rfl
theorem z9u (p:Pt):∀ s:List Pt,∃ a,s=a++pop p s
 |[]=>⟨[],by simp [pop]⟩
 |[t]=>⟨[],by rw [y44]; rfl⟩
 |t::s::r=>by
  by_cases h:cr s t p≤0
  ·obtain ⟨a,ha⟩:=z9u p (s::r)
   exact ⟨t::a,by rw [y2k p h,List.cons_append, ←ha]⟩
  ·exact ⟨[],by rw [y2j p h]; rfl⟩
theorem x7v {l st:List Pt} (hl:∀ x∈l,z1e x) (hst:∀ x∈st,z1e x):∀ x∈l.foldl push st,z1e x:=by
 induction l generalizing st with
 |nil=>exact hst
 |cons p l ih=>
  refine ih (fun x hx=>hl x (List.mem_cons_of_mem _ hx)) (fun x hx=>?_)
  rcases List.mem_cons.1 hx with rfl|hx
  ·exact hl _ (by simp)
  ·obtain ⟨a,ha⟩:=z9u p st
   exact hst x (by rw [ha]; exact List.mem_append_right _ hx)
theorem x52 {l st:List Pt}:(l.foldl push st).length≤st.length+l.length:=by
 induction l generalizing st with
 |nil=>simp
 |cons p l ih=>
  have h:=ih (st:=push st p)
  obtain ⟨a,ha⟩:=z9u p st
  have h2:(push st p).length=(pop p st).length+1:=rfl
  have h3:st.length=a.length+(pop p st).length:=by
   have:=congrArg List.length ha
   rwa [List.length_append] at this
  simp only [List.foldl_cons,List.length_cons]
  omega
def z3g (l:List Pt):List Pt:=(l.foldl push []).reverse
theorem w66 {l:List Pt} (hl:∀ x∈l,z1e x) (hn:l.length≤100000) (h1:1≤l.length):
  G88 std (z0d l,())=some (z0d (z3g l),(0:Nat),(z3g l).length - 1,(z3g l).length - 1,())∧1≤(z3g l).length∧(z3g l).length≤l.length:=by
 have hlen:(z3g l).length≤l.length:=by
  have:=x52 (l:=l) (st:=[])
  simp [z3g]; simpa using this
 have hpos:1≤(z3g l).length:=by
  match l,h1 with
  |p::r,_=>
   have:∀ (r st:List Pt),st≠[]→r.foldl push st≠[]:=by
    intro r
    induction r with
    |nil=>intro st h; exact h
    |cons q r ih=>intro st h; exact ih _ (by simp [push])
   have h2:=this r (push [] p) (by simp [push])
   have:(z3g (p::r))≠[]:=by simp only [z3g,List.foldl_cons]; simpa using h2
   exact List.length_pos_iff.2 this
 refine ⟨?_,hpos,hlen⟩
 have key:=z3k (b:=x8h it0 std) (fun (i:Nat)=>(z0d (z3g (l.take i)),z0d l,(l.length:Int),(i:Int),())) (fun i=>i≤l.length) (fun i=>l.length - i) (fun _=>(z0d (z3g l),())) (fun i hi=>by
  by_cases hlt:i<l.length
  ·left
   obtain ⟨p,hp⟩:=z0l hlt
   have hps:=hl p (List.mem_of_getElem? hp)
   have gp:=z0w hp
   have c1:(i:Int)<(l.length:Int):=by omega
   have c2:(i:Int)≥0:=by omega
   have hw:=z04 (i:=i) (by omega)
   have hst:∀ x∈z3g (l.take i),z1e x:=fun x hx=>x7v (l:=l.take i) (st:=[]) (fun y hy=>hl y (List.mem_of_mem_take hy)) (by simp) x (by simpa [z3g] using hx)
   have hll:(z3g (l.take i)).length≤i:=by
    have:=x52 (l:=l.take i) (st:=[])
    simp [z3g]; simp at this; omega
   have hloop:=w3r (L:=z3g (l.take i)) hps hst (by omega) (z0d l) (l.length:Int) (i:Int) _ ((l.take i).foldl push []) [] rfl (by simp [z3g])
   have hcl:((l.take i).foldl push []).length=(z3g (l.take i)).length:=by simp [z3g]
   rw [hcl] at hloop
   obtain ⟨a,ha⟩:=z9u p ((l.take i).foldl push [])
   generalize hq:pop p ((l.take i).foldl push [])=q at hloop ha
   have hch:z3g (l.take i)=q.reverse++a.reverse:=by simp only [z3g,ha,List.reverse_append]
   have hcut:(z0d (z3g (l.take i))).take q.length=z0d q.reverse:=by
    rw [hch]; simp [z0d]
   have hql:q.length≤(z3g (l.take i)).length:=by rw [hch]; simp
   have hnew:z3g (l.take (i+1))=q.reverse++[p]:=by
    rw [z3g,z0q hp,List.foldl_append]
    simp only [List.foldl_cons,List.foldl_nil,push,hq,List.reverse_cons]
   refine ⟨i+1,?_,by omega,by omega,rfl⟩
   rw [hnew]
   have d1:q.length+1≤1000000:=by omega
   have d2:z0d q.reverse++[eP p]=z0d (q.reverse++[p]):=by simp [z0d]
   have d4:q.length+1=(q.reverse++[p]).length:=by simp
   have d3:(z0d q.reverse++[eP p]).length=q.length+1:=by simp [z0d]
   simp only [x8h,it0_eq,z0u,z0v,z0g,z0z,z0y,z1f,z0i,z0c,z0b,hw,c1,c2,gp,hloop,List.drop_zero,hcut,hql,d1,List.take_succ_cons,List.take_zero,d3,Nat.le_refl,d2, ←d4]
  ·right
   have:i=l.length:=by omega
   subst this
   have hn:¬ ((l.length:Int)<(l.length:Int)):=by omega
   simp only [x8h,it0_eq,z0u,z0v,hn,List.take_length]) 0 (Nat.zero_le _)
 have e0:(z0d (z3g (l.take 0)),z0d l,(l.length:Int),((0:Nat):Int),())=(([]:List (List D)),z0d l,std.ofNat (std.len (z0d l)),(0:Int),()):=by
  simp [z3g,z0d,z1k,z2t]
 rw [e0] at key
 have v1:IntKind.i64.wrap (((z3g l).length:Int) - 1)=(((z3g l).length - 1:Nat):Int):=by rw [z00]<;>omega
 have c1:(0:Int)≤(((z3g l).length - 1:Nat):Int):=by omega
 have c2:(((z3g l).length - 1:Nat):Int)≤((z3g l).length:Int):=by omega
 have c3:(((z3g l).length - 1:Nat):Int)≤(((z3g l).length - 1:Nat):Int):=by omega
 have c4:(0:Int)≥0:=by omega
 unfold G88
 simp only [z1k,z2t] at key
 simp only [g88,it0_eq,z1k,z2t,z2a,z2w,z24,key,Option.bind_some]
 simp only [z0u,z0v,z0c,z0k,v1,c1,c2,c3,c4,Int.toNat_zero,Nat.sub_zero,Nat.add_zero]
end Go.Am
end
section
namespace M06
theorem lag (u v:Pt):dt u u*dt v v=dt u v*dt u v+crs u v*crs u v:=by simp only [dt,crs]; grind
theorem z12 (u:Pt):0≤dt u u:=by have:=sqn u.1; have:=sqn u.2; simp only [dt]; omega
theorem z0x {u:Pt} (h:u≠(0,0)):0<dt u u:=by
 have a:=sqn u.1
 have b:=sqn u.2
 refine Classical.byContradiction fun hc=>h ?_
 simp only [dt] at hc
 have e1:u.1*u.1=0:=by omega
 have e2:u.2*u.2=0:=by omega
 exact Prod.ext (by rcases Int.mul_eq_zero.1 e1 with h|h<;>exact h) (by rcases Int.mul_eq_zero.1 e2 with h|h<;>exact h)
theorem z1a {a b:Pt}:sb a b=(0,0)↔a=b:=by
 simp only [sb,Prod.mk.injEq]
 exact ⟨fun h=>Prod.ext (by omega) (by omega),fun h=>by subst h; omega⟩
structure y17 (S:List Pt) (d a b:Pt):Prop where
 ina:a∈S
 inb:b∈S
 par:crs d (sb b a)=0
 left:∀ x∈S,0≤crs d (sb x a)
 on:∀ x∈S,crs d (sb x a)=0→0≤dt d (sb x a)∧0≤dt d (sb b x)
theorem z8r (u v w:Pt):dt u (sb v w)=dt u v - dt u w:=by simp only [dt,sb]; grind
theorem z6o (u v w:Pt):crs u (sb v w)=crs u v - crs u w:=by simp only [crs,sb]; grind
theorem y5m (d a b:Pt):dt d (sb a b)= - dt d (sb b a):=by simp only [dt,sb]; grind
theorem z9h (d a b:Pt):crs d (sb a b)= - crs d (sb b a):=by simp only [crs,sb]; grind
theorem z6p {d v:Pt} (hd:d≠(0,0)) (h1:crs d v=0) (h2:dt d v=0):v=(0,0):=by
 have:=lag d v
 rw [h1,h2] at this
 have hp:=z0x hd
 refine Classical.byContradiction fun hv=>?_
 have:=Int.mul_pos hp (z0x hv)
 omega
theorem y17.unique {S:List Pt} {d a b a' b':Pt} (hd:d≠(0,0)) (h:y17 S d a b) (h':y17 S d a' b'):a=a'∧b=b':=by
 have e1:=h.left a' h'.ina
 have e2:=h'.left a h.ina
 have z1:crs d (sb a' a)=0:=by rw [z9h] at e2; omega
 have z2:crs d (sb a a')=0:=by rw [z9h]; omega
 have o1:=(h.on a' h'.ina z1).1
 have o2:=(h'.on a h.ina z2).1
 have ha:a=a':=by
  have:dt d (sb a a')=0:=by rw [y5m] at o1; omega
  exact z1a.1 (z6p hd z2 this)
 subst ha
 have p1:=(h.on b' h'.inb h'.par).2
 have p2:=(h'.on b h.inb h.par).2
 refine ⟨rfl,z1a.1 (z6p hd ?_ ?_)⟩
 ·have:=h.par; have:=h'.par
  simp only [crs,sb] at*; grind
 ·have:=y5m d b b'; omega
theorem y17.sum {A B:List Pt} {T:List Pt} (hT:∀ z,z∈T↔∃ x∈A,∃ y∈B,z=ad x y) {d a b a' b':Pt} (h:y17 A d a b) (h':y17 B d a' b'):y17 T d (ad a a') (ad b b'):=by
 have add1:∀ x y p q:Pt,crs d (sb (ad x y) (ad p q))=crs d (sb x p)+crs d (sb y q):=by intros; simp only [crs,sb,ad]; grind
 have add2:∀ x y p q:Pt,dt d (sb (ad x y) (ad p q))=dt d (sb x p)+dt d (sb y q):=by intros; simp only [dt,sb,ad]; grind
 refine ⟨(hT _).2 ⟨_,h.ina,_,h'.ina,rfl⟩,(hT _).2 ⟨_,h.inb,_,h'.inb,rfl⟩,?_,?_,?_⟩
 ·rw [add1,h.par,h'.par]; rfl
 ·intro z hz
  obtain ⟨x,hx,y,hy,rfl⟩:=(hT z).1 hz
  rw [add1]
  have:=h.left x hx; have:=h'.left y hy; omega
 ·intro z hz hz0
  obtain ⟨x,hx,y,hy,rfl⟩:=(hT z).1 hz
  rw [add1] at hz0
  have l1:=h.left x hx
  have l2:=h'.left y hy
  have o1:=h.on x hx (by omega)
  have o2:=h'.on y hy (by omega)
  rw [add2,add2]; omega
theorem y17.sub {S T:List Pt} {d a b:Pt} (h:y17 S d a b) (hs:∀ x∈T,x∈S) (ha:a∈T) (hb:b∈T):y17 T d a b:=
 ⟨ha,hb,h.par,fun x hx=>h.left x (hs x hx),fun x hx=>h.on x (hs x hx)⟩
def z6r (u v:Pt):Prop:=crs u v=0∧0<dt u v
theorem z6r.mul {u v:Pt} (h:z6r u v) (w:Pt):dt u u*crs v w=dt u v*crs u w∧dt u u*dt v w=dt u v*dt u w:=by
 have h0:=h.1
 simp only [crs,dt] at*
 constructor<;>grind
theorem z6r.ne {u v:Pt} (h:z6r u v):u≠(0,0):=by
 rintro rfl; have:=h.2; simp [dt] at this
theorem z6r.symm {u v:Pt} (h:z6r u v):z6r v u:=by
 refine ⟨?_,?_⟩
 ·have:=h.1; simp only [crs] at*; grind
 ·have:=h.2; simp only [dt] at*; rw [Int.mul_comm v.1,Int.mul_comm v.2]; exact this
theorem z8h {a b c d:Int} (ha:0<a) (hc:0<c) (h:a*b=c*d):(0≤b↔0≤d)∧(b=0↔d=0):=by
 have p:∀ {x y z w:Int},0<x→0<z→x*y=z*w→0≤y→0≤w:=by
  intro x y z w hx hz h hy
  refine Classical.byContradiction fun hn=>?_
  have:=Int.mul_nonneg (Int.le_of_lt hx) hy
  have:=Int.mul_neg_of_pos_of_neg hz (Int.not_le.1 hn)
  omega
 have q:∀ {x y z w:Int},0<z→x*y=z*w→y=0→w=0:=by
  intro x y z w hz h hy
  rw [hy,Int.mul_zero] at h
  rcases Int.mul_eq_zero.1 h.symm with h|h
  ·omega
  ·exact h
 exact ⟨⟨p ha hc h,p hc ha h.symm⟩,⟨q hc h,q ha h.symm⟩⟩
theorem y17.same {S:List Pt} {d e a b:Pt} (h:y17 S d a b) (hs:z6r d e):y17 S e a b:=by
 have hd:=z0x hs.ne
 have k:∀ w,(0≤crs e w↔0≤crs d w)∧(crs e w=0↔crs d w=0):=fun w=>z8h hd hs.2 (hs.mul w).1
 have k2:∀ w,(0≤dt e w↔0≤dt d w)∧(dt e w=0↔dt d w=0):=fun w=>z8h hd hs.2 (hs.mul w).2
 refine ⟨h.ina,h.inb,(k _).2.2 h.par,fun x hx=>(k _).1.2 (h.left x hx),fun x hx h0=>?_⟩
 have:=h.on x hx ((k _).2.1 h0)
 exact ⟨(k2 _).1.2 this.1,(k2 _).1.2 this.2⟩
theorem y8t {a b:Int} (hb:0≤b) (h:a*a≤b*b):a≤b:=by
 refine Classical.byContradiction fun hn=>?_
 have:b<a:=by omega
 have:=Int.mul_lt_mul_of_pos_left this (show 0<a by omega)
 have:=Int.mul_le_mul_of_nonneg_right (show b≤a by omega) hb
 have:=Int.mul_comm a b
 omega
theorem y5g {a b x:Pt} (hab:a≠b) (h0:cr a b x=0) (h1:0≤dt (sb b a) (sb x a)):far a x≤far a b↔0≤dt (sb b a) (sb b x):=by
 have hne:sb b a≠(0,0):=fun h=>hab (z1a.1 h).symm
 have hp:=z0x hne
 have e1:far a x=dt (sb x a) (sb x a):=by simp only [far,dt,sb]; grind
 have e2:far a b=dt (sb b a) (sb b a):=by simp only [far,dt,sb]; grind
 have e3:dt (sb b a) (sb b x)=dt (sb b a) (sb b a) - dt (sb b a) (sb x a):=by simp only [dt,sb]; grind
 have hl:=lag (sb b a) (sb x a)
 have h0':crs (sb b a) (sb x a)=0:=h0
 rw [h0'] at hl
 rw [e1,e2,e3]
 generalize dt (sb b a) (sb x a)=m at*
 generalize dt (sb b a) (sb b a)=n at*
 generalize dt (sb x a) (sb x a)=k at*
 have hl':n*k=m*m:=by omega
 constructor
 ·intro h
  have:n*k≤n*n:=Int.mul_le_mul_of_nonneg_left h (by omega)
  have:=y8t (a:=m) (b:=n) (by omega) (by omega)
  omega
 ·intro h
  have h2:m*m≤n*n:=Int.mul_le_mul (by omega) (by omega) h1 (by omega)
  refine Classical.byContradiction fun hn=>?_
  have:=Int.mul_lt_mul_of_pos_left (show n<k by omega) hp
  omega
theorem y8m {S:List Pt} {a b:Pt} (ha:a∈S) (h:Nx S a b):y17 S (sb b a) a b:=by
 obtain ⟨h1,h2,h3⟩:=h
 refine ⟨ha,h1,?_,fun x hx=>(h3 x hx).1,fun x hx h0=>?_⟩
 ·simp only [crs,sb]; grind
 ·have:=(h3 x hx).2 h0
  exact ⟨this.1,(y5g h2 h0 this.1).1 this.2⟩
theorem face_nx {S:List Pt} {d a b:Pt} (hd:d≠(0,0)) (h:y17 S d a b) (hab:a≠b):Nx S a b∧z6r d (sb b a):=by
 have hpos:0<dt d (sb b a):=by
  have h0:crs d (sb a a)=0:=by simp [crs,sb]
  have:=(h.on a h.ina h0).2
  refine Classical.byContradiction fun hn=>hab ?_
  exact (z1a.1 (z6p hd h.par (by omega))).symm
 have hs:z6r d (sb b a):=⟨h.par,hpos⟩
 have hf:=h.same hs
 refine ⟨⟨h.inb,hab,fun x hx=>⟨hf.left x hx,fun h0=>?_⟩⟩,hs⟩
 have:=hf.on x hx h0
 exact ⟨this.1,(y5g hab h0 this.1).2 this.2⟩
theorem y1i {S:List Pt} {a b b':Pt} (h:Nx S a b) (h':Nx S a b'):b=b':=by
 have c1:=h.2.2 b' h'.1
 have c2:=h'.2.2 b h.1
 have z:cr a b b'=0:=by have:=y00 a b b'; omega
 have z':cr a b' b=0:=by have:=y00 a b b'; omega
 have f1:=(c1.2 z).2
 have f2:=(c2.2 z').2
 have d1:=(y5g h.2.1 z (c1.2 z).1).1 f1
 have d2:=(y5g h'.2.1 z' (c2.2 z').1).1 f2
 have hf:dt (sb b' b) (sb b' b)=0:=by
  have e:dt (sb b' b) (sb b' b)= - dt (sb b a) (sb b' b)+dt (sb b' a) (sb b' b):=by simp only [dt,sb]; grind
  have e2:dt (sb b a) (sb b' b)= - dt (sb b a) (sb b b'):=by simp only [dt,sb]; grind
  have hl:0≤dt (sb b' b) (sb b' b):=z12 _
  have e3:dt (sb b a) (sb b' a)*2=far a b+far a b' - dt (sb b' b) (sb b' b):=by simp only [far,dt,sb]; grind
  have e4:dt (sb b a) (sb b b')=far a b - dt (sb b a) (sb b' a):=by simp only [far,dt,sb]; grind
  have e5:dt (sb b' a) (sb b' b)=far a b' - dt (sb b a) (sb b' a):=by simp only [far,dt,sb]; grind
  have hlag:=lag (sb b a) (sb b' a)
  have z0:crs (sb b a) (sb b' a)=0:=z
  have e6:dt (sb b a) (sb b a)=far a b:=by simp only [far,dt,sb]; grind
  have e7:dt (sb b' a) (sb b' a)=far a b':=by simp only [far,dt,sb]; grind
  rw [z0,e6,e7] at hlag
  have hfe:far a b=far a b':=by omega
  have hm:0≤dt (sb b a) (sb b' a):=(c1.2 z).1
  rw [←hfe] at hlag
  have hfn:0≤far a b:=by rw [←e6]; exact z12 _
  have hq:=y8t (a:=far a b) (b:=dt (sb b a) (sb b' a)) hm (by omega)
  omega
 refine Classical.byContradiction fun hne=>?_
 have:=z0x (u:=sb b' b) (fun h=>hne (z1a.1 h).symm)
 omega
theorem y5b {a b:Pt} (h1:Le a b) (h2:Le b a):a=b:=by
 rcases h1 with h|h1
 ·exact h
 ·rcases h2 with h|h2
  ·exact h.symm
  ·exact absurd h2 (fun h=>h1.asymm h)
theorem y2i {S:List Pt} {e:Pt}:∀ {l l':List Pt} {a:Pt},Pth S (a::l++[e])→Pth S (a::l'++[e])→e∉l→e∉l'→l=l'
 |[],[],a,_,_,_,_=>rfl
 |[],b::l',a,h,h',_,n'=>by
  have:=y1i h.1 h'.1
  exact absurd (by simp [this]) n'
 |b::l,[],a,h,h',n,_=>by
  have:=y1i h.1 h'.1
  exact absurd (by simp [this]) n
 |b::l,b'::l',a,h,h',n,n'=>by
  have e1:=y1i h.1 h'.1
  subst e1
  have:=y2i (l:=l) (l':=l') (a:=b) h.2 h'.2 (fun x=>n (List.mem_cons_of_mem _ x)) (fun x=>n' (List.mem_cons_of_mem _ x))
  rw [this]
theorem y7l {S c c':List Pt} (h:Cyc S c) (h':Cyc S c'):c=c':=by
 match c,c',h,h' with
 |c0::r,c0'::r',h,h'=>
  have e0:c0=c0':=y5b (h.2.1 _ h'.1) (h'.2.1 _ h.1)
  subst e0
  congr 1
  rcases h.2.2 with ⟨hr,hs⟩|⟨hr,hp,hn⟩
  ·rcases h'.2.2 with ⟨hr',_⟩|⟨hr',hp',hn'⟩
   ·rw [hr,hr']
   ·match r',hr',hp',hn' with
    |b::l,_,hp',hn'=>exact absurd (by simp [hs b hp'.1.1]) hn'
  ·rcases h'.2.2 with ⟨hr',hs'⟩|⟨hr',hp',hn'⟩
   ·match r,hr,hp,hn with
    |b::l,_,hp,hn=>exact absurd (by simp [hs' b hp.1.1]) hn
   ·exact y2i hp hp' hn hn'
theorem z4z {S c:List Pt} (h:Cyc S c):∀ x∈c,x∈S:=by
 have k:∀ (l:List Pt) (a:Pt),Pth S (a::l)→∀ x∈l,x∈S:=by
  intro l
  induction l with
  |nil=>intro a _ x hx; simp at hx
  |cons b l ih=>
   intro a h x hx
   rcases List.mem_cons.1 hx with rfl|hx
   ·exact h.1.1
   ·exact ih b h.2 x hx
 match c,h with
 |c0::r,h=>
  intro x hx
  rcases List.mem_cons.1 hx with rfl|hx
  ·exact h.1
  ·rcases h.2.2 with ⟨hr,_⟩|⟨_,hp,_⟩
   ·subst hr; simp at hx
   ·exact k (r++[c0]) c0 hp x (by simp [hx])
theorem v15 {S T:List Pt} {a b:Pt} (h:Nx S a b) (hs:∀ x∈T,x∈S) (hb:b∈T):Nx T a b:=
 ⟨hb,h.2.1,fun x hx=>h.2.2 x (hs x hx)⟩
theorem w9v {S T c:List Pt} (h:Cyc S c) (hs:∀ x∈T,x∈S) (hc:∀ x∈c,x∈T):Cyc T c:=by
 have k:∀ (l:List Pt) (a:Pt),Pth S (a::l)→(∀ x∈l,x∈T)→Pth T (a::l):=by
  intro l
  induction l with
  |nil=>intro a _ _; trivial
  |cons b l ih=>
   intro a h hx
   exact ⟨v15 h.1 hs (hx b (by simp)),ih b h.2 (fun x h=>hx x (List.mem_cons_of_mem _ h))⟩
 match c,h with
 |c0::r,h=>
  refine ⟨hc c0 (by simp),fun x hx=>h.2.1 x (hs x hx),?_⟩
  rcases h.2.2 with ⟨hr,h1⟩|⟨hr,hp,hn⟩
  ·exact .inl ⟨hr,fun x hx=>h1 x (hs x hx)⟩
  ·refine .inr ⟨hr,k (r++[c0]) c0 hp (fun x hx=>?_),hn⟩
   rcases List.mem_append.1 hx with hx|hx
   ·exact hc x (List.mem_cons_of_mem _ hx)
   ·simp at hx; subst hx; exact hc _ (by simp)
theorem z1w {S c:List Pt} (h:Cyc S c):Cyc c c:=w9v h (z4z h) (fun _ h=>h)
end M06
end
section
namespace M06
def Bef (u v:Pt):Prop:=(Pos u∧Pos (ng v))∨(Pos u∧Pos v∧0<crs u v)∨(Pos (ng u)∧Pos (ng v)∧0<crs u v)
def ways:List Pt→List Pt
 |a::b::l=>sb b a::ways (b::l)
 |_=>[]
def x4p:Pt→List Pt→List Pt
 |p,[]=>[p]
 |p,w::ws=>p::x4p (ad p w) ws
def wy:List Pt→List Pt
 |a::b::r=>ways (a::b::r++[a])
 |_=>[]
theorem u1a (a b:Pt):ad a (sb b a)=b:=by simp only [ad,sb]; exact Prod.ext (by simp; omega) (by simp; omega)
theorem y95:∀ (l:List Pt) (a:Pt),x4p a (ways (a::l))=a::l
 |[],a=>rfl
 |b::l,a=>by
  simp only [ways,x4p]
  rw [u1a,y95 l b]
theorem z73:∀ (l r:List Pt) (m:Pt),ways (l++m::r)=ways (l++[m])++ways (m::r)
 |[],r,m=>by simp [ways]
 |[a],r,m=>by simp [ways]
 |a::b::l,r,m=>by
  have:=z73 (b::l) r m
  simp only [List.cons_append,ways] at this⊢
  rw [this]
theorem w76 {u v:Pt} (h1:Pos u) (h2:Pos v):Pos (ad u v):=by simp only [Pos,ad] at*; omega
theorem y43 (u:Pt) (h:u≠(0,0)):Pos u∨Pos (ng u):=by
 have:¬ (u.1=0∧u.2=0):=fun e=>h (Prod.ext e.1 e.2)
 simp only [Pos,ng]; omega
theorem z2d {u:Pt} (h1:Pos u) (h2:Pos (ng u)):False:=by simp only [Pos,ng] at*; omega
theorem y0d {u:Pt} (h:Pos u):u≠(0,0):=by rintro rfl; simp [Pos] at h
theorem crs_ng (u v:Pt):crs (ng u) (ng v)=crs u v:=by simp only [crs,ng]; grind
theorem y9f (u v:Pt):crs (ng u) v= - crs u v:=by simp only [crs,ng]; grind
theorem y9e (u v:Pt):crs u (ng v)= - crs u v:=by simp only [crs,ng]; grind
theorem z30 (u v:Pt):crs v u= - crs u v:=by simp only [crs]; grind
theorem y19:∀ {st:List Pt},x23 st→Conv st→(ways st.reverse).Pairwise (fun u v=>0<crs u v)∧∀ w∈ways st.reverse,Pos w
 |[],_,_=>⟨.nil,by simp [ways]⟩
 |[_],_,_=>⟨.nil,by simp [ways]⟩
 |[t,s],hd,_=>⟨by simp [ways],fun w hw=>by simp [ways] at hw; subst hw; exact hd.1⟩
 |t::s::r::l,hd,hc=>by
  obtain ⟨h1,h2⟩:=y19 (st:=s::r::l) hd.2 hc.2
  have e:ways (t::s::r::l).reverse=ways (s::r::l).reverse++[sb t s]:=by
   have:=z73 (r::l).reverse [t] s
   simp only [List.reverse_cons,List.append_assoc,List.cons_append,List.nil_append] at this⊢
   rw [this]; rfl
  have e2:ways (s::r::l).reverse=ways (r::l).reverse++[sb s r]:=by
   have:=z73 l.reverse [s] r
   simp only [List.reverse_cons,List.append_assoc,List.cons_append,List.nil_append] at this⊢
   rw [this]; rfl
  have hpt:Pos (sb t s):=hd.1
  have hps:Pos (sb s r):=hd.2.1
  have hcc:0<crs (sb s r) (sb t s):=by rw [x6i]; exact hc.1
  refine ⟨?_,fun w hw=>?_⟩
  ·rw [e,List.pairwise_append]
   refine ⟨h1,by simp,fun u hu v hv=>?_⟩
   simp at hv; subst hv
   rw [e2] at hu
   rcases List.mem_append.1 hu with hu'|hu'
   ·have hu2:0<crs u (sb s r):=by
     rw [e2,List.pairwise_append] at h1
     exact h1.2.2 u hu' _ (by simp)
    exact z23 (h2 u (by rw [e2]; exact hu)) hps hpt (by omega) (by omega) (.inl hu2)
   ·simp at hu'; subst hu'; exact hcc
  ·rw [e] at hw
   rcases List.mem_append.1 hw with hw|hw
   ·exact h2 w hw
   ·simp at hw; subst hw; exact hpt
theorem x8y:∀ l:List Pt,ways (l.map ng)=(ways l).map ng
 |[]=>rfl
 |[_]=>rfl
 |a::b::l=>by
  have:=x8y (b::l)
  simp only [List.map_cons,ways] at this⊢
  rw [this]
  congr 1
  simp only [sb,ng]; exact Prod.ext (by simp; omega) (by simp; omega)
theorem w0v (p:Pt):∀ (l st:List Pt),(∃ r,(l++[p]).foldl push st=p::r):=by
 intro l st
 rw [List.foldl_append]
 exact ⟨_,rfl⟩
theorem x47 (p:Pt):∀ (st:List Pt),st≠[]→(pop p st)≠[]∧(pop p st).getLast?=st.getLast?
 |[t],_=>by rw [y44]; simp
 |t::s::r,_=>by
  by_cases h:cr s t p≤0
  ·rw [y2k p h]
   have:=x47 p (s::r) (by simp)
   refine ⟨this.1,this.2.trans ?_⟩
   simp [List.getLast?_cons_cons]
  ·rw [y2j p h]; simp
theorem x1x:∀ (l st:List Pt),st≠[]→(l.foldl push st)≠[]∧(l.foldl push st).getLast?=st.getLast?
 |[],st,h=>⟨h,rfl⟩
 |p::l,st,h=>by
  have h1:=x47 p st h
  have h2:=x1x l (push st p) (by simp [push])
  refine ⟨h2.1,h2.2.trans ?_⟩
  show (p::pop p st).getLast?=_
  rw [←h1.2]
  match hq:pop p st,h1.1 with
  |[],h=>exact absurd rfl h
  |a::q,_=>simp [List.getLast?_cons_cons]
def chn (l:List Pt):List Pt:=(l.foldl push []).reverse
theorem y9i {q:List Pt} {a z:Pt} {m:List Pt} (hq:q=a::m) (hz:q.getLast?=some z) (hs:q.Pairwise Lt):
  ∃ t,chn q=t++[z]∧(t++[z]).head?=some a∧x8t q (chn q).reverse:=by
 subst hq
 have hc:=y7p m [a] [a] (by simp) (w12 a) (fun x hx y hy=>by simp at hx; subst hx; exact (List.pairwise_cons.1 hs).1 y hy) (List.pairwise_cons.1 hs).2
 have he:(a::m).foldl push []=m.foldl push [a]:=by
  show m.foldl push (push [] a)=_
  have:push [] a=[a]:=by simp [push,pop]
  rw [this]
 have hrev:(chn (a::m)).reverse=m.foldl push [a]:=by rw [chn,List.reverse_reverse,he]
 have hl:=x1x m [a] (by simp)
 have hh:∃ r,m.foldl push [a]=z::r:=by
  rcases List.eq_nil_or_concat m with rfl|⟨m',x,rfl⟩
  ·simp at hz; subst hz; exact ⟨[],rfl⟩
  ·have:z=x:=by
    have:(a::(m'++[x])).getLast?=some x:=by
     rw [←List.cons_append,List.getLast?_append]; simp
    rw [List.concat_eq_append] at hz
    rw [this] at hz; exact (Option.some.inj hz).symm
   subst this
   rw [List.concat_eq_append]
   exact w0v z m' [a]
 obtain ⟨r,hr⟩:=hh
 refine ⟨r.reverse,?_,?_,by rw [hrev]; exact hc.1⟩
 ·rw [chn,he,hr,List.reverse_cons]
 ·have h2:=hl.2
  rw [hr] at h2
  rw [←List.reverse_cons,List.head?_reverse,h2]; rfl
theorem w60 (l:List Pt):chn (l.map ng)=(chn l).map ng:=by
 rw [chn,chn,show ([]:List Pt)=([]:List Pt).map ng from rfl,w0u,List.map_reverse]; rfl
def w6n (q:List Pt):List Pt:=if q.length=1 then q else (chn q).dropLast++(chn q.reverse).dropLast
theorem Le.trans {a b c:Pt} (h1:Le a b) (h2:Le b c):Le a c:=by
 rcases h1 with rfl|h1
 ·exact h2
 ·rcases h2 with rfl|h2
  ·exact .inr h1
  ·exact .inr (h1.trans h2)
theorem x6a:∀ {st:List Pt} {z:Pt},x23 (st++[z])→∀ x∈st,Lt z x
 |[],_,_,x,hx=>by simp at hx
 |[t],z,h,x,hx=>by simp at hx; subst hx; exact h.1
 |t::s::r,z,h,x,hx=>by
  have ih:=x6a (st:=s::r) (z:=z) h.2
  rcases List.mem_cons.1 hx with rfl|hx
  ·exact (ih s (by simp)).trans h.1
  ·exact ih x hx
theorem x2b:∀ {st:List Pt} {z:Pt},x23 (z::st)→∀ x∈st,Lt x z
 |[],_,_,x,hx=>by simp at hx
 |t::r,z,h,x,hx=>by
  rcases List.mem_cons.1 hx with rfl|hx
  ·exact h.1
  ·exact (x2b h.2 x hx).trans h.1
theorem x5t {S q:List Pt} (hne:q≠[]) (hs:q.Pairwise Lt) (hm:∀ x,x∈q↔x∈S):Cyc S (w6n q)∧(wy (w6n q)).Pairwise Bef:=by
 match q,hne with
 |[a],_=>
  have hS:∀ x∈S,x=a:=fun x hx=>by simpa using (hm x).2 hx
  refine ⟨⟨(hm a).1 (by simp),fun x hx=> .inl (hS x hx).symm, .inl ⟨rfl,hS⟩⟩,?_⟩
  simp [w6n,wy]
 |a::b::m,_=>
  clear hne
  have hlen:(a::b::m).length≠1:=by simp
  generalize hq:a::b::m=q at hs hm hlen⊢
  obtain ⟨z,hz⟩:∃ z,q.getLast?=some z:=by subst hq; exact ⟨_,List.getLast?_eq_some_getLast (by simp)⟩
  have hzq:z∈q:=List.mem_of_getLast? hz
  have haz:Lt a z:=by
   subst hq
   rw [List.getLast?_cons_cons] at hz
   exact (List.pairwise_cons.1 hs).1 z (List.mem_of_getLast? hz)
  obtain ⟨t,h1,h2,h3⟩:=y9i (a:=a) (m:=b::m) hq.symm hz hs
  have hrz:(q.reverse.map ng).Pairwise Lt:=by
   rw [List.pairwise_map,List.pairwise_reverse]
   exact hs.imp fun h=>(w8h _ _).2 h
  obtain ⟨m',hm'⟩:∃ m',q.reverse.map ng=ng z::m':=by
   have:q.reverse.head?=some z:=by rw [List.head?_reverse]; exact hz
   match hqr:q.reverse,this with
   |x::r,h=>cases h; exact ⟨r.map ng,rfl⟩
  have hlast:(q.reverse.map ng).getLast?=some (ng a):=by
   rw [List.getLast?_map,List.getLast?_reverse, ←hq]; rfl
  obtain ⟨u,k1,k2,k3⟩:=y9i hm' hlast hrz
  rw [w60] at k1 k3
  obtain ⟨v,hv⟩:∃ v,chn q.reverse=v++[a]∧u=v.map ng:=by
   have:chn q.reverse=(u++[ng a]).map ng:=by
    rw [←k1,List.map_map]
    have:(ng∘ng)=id:=funext x1j
    rw [this,List.map_id]
   refine ⟨u.map ng,by rw [this]; simp [x1j],?_⟩
   rw [List.map_map,show (ng∘ng)=id from funext x1j,List.map_id]
  obtain ⟨hv,hu⟩:=hv
  have hvh:(v++[a]).head?=some z:=by
   rw [hu] at k2
   have:((v++[a]).map ng).head?=some (ng z):=by simpa using k2
   rw [List.head?_map] at this
   cases hh:(v++[a]).head? with
   |none=>rw [hh] at this; cases this
   |some y=>rw [hh] at this; rw [w6i (Option.some.inj this)]
  have ht:∃ t',t=a::t':=by
   match t,h2 with
   |[],h2=>exact absurd (Option.some.inj h2).symm haz.ne
   |x::t',h2=>cases h2; exact ⟨t',rfl⟩
  have hv':∃ v',v=z::v':=by
   match v,hvh with
   |[],hvh=>exact absurd (Option.some.inj hvh) haz.ne
   |x::v',hvh=>cases hvh; exact ⟨v',rfl⟩
  obtain ⟨t',rfl⟩:=ht
  obtain ⟨v',rfl⟩:=hv'
  have hh:w6n q=a::t'++z::v':=by
   rw [w6n,if_neg hlen,h1,hv,List.dropLast_concat,List.dropLast_concat]
  have p1:Pth S (a::t'++[z]):=by
   have:=y42 (S:=S) h3.desc (fun x hx=>h3.edge x ((hm x).2 hx)) (fun y hy=>(hm y).1 (h3.sub y hy))
   rwa [List.reverse_reverse,h1] at this
  have p2:Pth S (z::v'++[a]):=by
   have hsub:∀ x,x∈q.reverse.map ng↔x∈S.map ng:=fun x=>by
    simp only [List.mem_map,List.mem_reverse]
    exact ⟨fun ⟨y,h,e⟩=>⟨y,(hm y).1 h,e⟩,fun ⟨y,h,e⟩=>⟨y,(hm y).2 h,e⟩⟩
   have:=y42 (S:=S.map ng) k3.desc (fun x hx=>k3.edge x ((hsub x).2 hx)) (fun y hy=>(hsub y).1 (k3.sub y hy))
   rw [List.reverse_reverse,hv] at this
   exact w6c this
  have d1:x23 ((a::t'++[z]).reverse):=by have:=h3.desc; rwa [h1] at this
  have d2:x23 (((z::v'++[a]).map ng).reverse):=by have:=k3.desc; rwa [hv] at this
  have c1:Conv ((a::t'++[z]).reverse):=by have:=h3.conv; rwa [h1] at this
  have c2:Conv (((z::v'++[a]).map ng).reverse):=by have:=k3.conv; rwa [hv] at this
  have n1:∀ x∈t',Lt a x:=by
   intro x hx
   rw [List.cons_append,List.reverse_cons] at d1
   exact x6a d1 x (by simp [hx])
  have n2:∀ x∈v',Lt a x:=by
   intro x hx
   rw [List.map_append,List.reverse_append] at d2
   have:=x2b (st:=((z::v').map ng).reverse) (z:=ng a) d2 (ng x) (List.mem_reverse.2 (List.mem_map.2 ⟨x,by simp [hx],rfl⟩))
   exact (w8h _ _).1 this
  refine ⟨?_,?_⟩
  ·rw [hh]
   have haS:∀ x∈S,Le a x:=fun x hx=>by
    have:=(hm x).2 hx
    rw [←hq] at this
    rcases List.mem_cons.1 this with rfl|h
    ·exact .inl rfl
    ·rw [←hq] at hs; exact .inr ((List.pairwise_cons.1 hs).1 x h)
   refine ⟨(hm a).1 (by rw [←hq]; simp),haS, .inr ⟨by simp,?_,?_⟩⟩
   ·have:=y8h (l:=a::t') (m:=z) (r:=v'++[a]) p1 p2
    simpa using this
   ·intro hx
    rcases List.mem_append.1 hx with h|h
    ·exact (n1 a h).irrefl
    ·rcases List.mem_cons.1 h with h|h
     ·exact haz.ne h
     ·exact (n2 a h).irrefl
  ·rw [hh]
   have hw:wy (a::t'++z::v')=ways (a::t'++[z])++ways (z::v'++[a]):=by
    have:wy (a::t'++z::v')=ways (a::t'++z::(v'++[a])):=by
     cases t' with
     |nil=>simp [wy]
     |cons x t'=>simp [wy]
    rw [this,z73]; rfl
   obtain ⟨w1,w2⟩:=y19 d1 c1
   rw [List.reverse_reverse] at w1 w2
   obtain ⟨w3,w4⟩:=y19 d2 c2
   rw [List.reverse_reverse,x8y] at w3 w4
   have w4':∀ w∈ways (z::v'++[a]),Pos (ng w):=fun w hw=>w4 _ (List.mem_map.2 ⟨w,hw,rfl⟩)
   rw [hw,List.pairwise_append]
   refine ⟨?_,?_,fun x hx y hy=> .inl ⟨w2 x hx,w4' y hy⟩⟩
   ·exact w1.imp_of_mem fun {x y} hx hy h=> .inr (.inl ⟨w2 x hx,w2 y hy,h⟩)
   ·rw [List.pairwise_map] at w3
    exact w3.imp_of_mem fun {x y} hx hy h=> .inr (.inr ⟨w4' x hx,w4' y hy,by rwa [crs_ng] at h⟩)
noncomputable def ins (p:Pt):List Pt→List Pt
 |[]=>[p]
 |a::l=>open Classical in if Lt p a then p::a::l else if p=a then a::l else a::ins p l
theorem x5r (p:Pt):∀ (l:List Pt),l.Pairwise Lt→(ins p l).Pairwise Lt∧∀ x,x∈ins p l↔x=p∨x∈l
 |[],_=>by simp [ins]
 |a::l,h=>by
  obtain ⟨h1,h2⟩:=x5r p l (List.pairwise_cons.1 h).2
  have h0:=(List.pairwise_cons.1 h).1
  rw [ins]
  split
  ·rename_i hp
   refine ⟨List.pairwise_cons.2 ⟨fun y hy=>?_,h⟩,fun x=>by simp⟩
   rcases List.mem_cons.1 hy with rfl|hy
   ·exact hp
   ·exact hp.trans (h0 y hy)
  ·rename_i hp
   split
   ·rename_i he
    subst he
    refine ⟨h,fun x=>?_⟩
    simp
   ·rename_i hne
    have hap:Lt a p:=by
     rcases x1o p a with h|h|h
     ·exact absurd h hp
     ·exact absurd h hne
     ·exact h
    refine ⟨List.pairwise_cons.2 ⟨fun y hy=>?_,h1⟩,fun x=>?_⟩
    ·rcases (h2 y).1 hy with rfl|hy
     ·exact hap
     ·exact h0 y hy
    ·simp only [List.mem_cons,h2]
     constructor
     ·rintro (h|h|h)
      ·exact .inr (.inl h)
      ·exact .inl h
      ·exact .inr (.inr h)
     ·rintro (h|h|h)
      ·exact .inr (.inl h)
      ·exact .inl h
      ·exact .inr (.inr h)
theorem y1d:∀ (S:List Pt),∃ q:List Pt,q.Pairwise Lt∧∀ x,x∈q↔x∈S
 |[]=>⟨[], .nil,fun _=>Iff.rfl⟩
 |p::S=>by
  obtain ⟨q,h1,h2⟩:=y1d S
  obtain ⟨h3,h4⟩:=x5r p q h1
  exact ⟨ins p q,h3,fun x=>by rw [h4,h2]; simp⟩
theorem y7n {S:List Pt} (hne:S≠[]):∃ c,Cyc S c∧(wy c).Pairwise Bef:=by
 obtain ⟨q,h1,h2⟩:=y1d S
 have:q≠[]:=by
  rintro rfl
  match S,hne with
  |a::S,_=>have:=(h2 a).2 (by simp); simp at this
 exact ⟨_,x5t this h1 h2⟩
theorem z8x {S c:List Pt} (h:Cyc S c):S≠[]:=by
 match c,h with
 |c0::r,h=>intro e; have:=h.1; rw [e] at this; simp at this
theorem w9w {S c:List Pt} (h:Cyc S c):(wy c).Pairwise Bef:=by
 obtain ⟨c',h1,h2⟩:=y7n (z8x h)
 rw [y7l h h1]; exact h2
end M06
end
section
namespace M06
instance (u:Pt):Decidable (Pos u):=by unfold Pos; infer_instance
instance (u v:Pt):Decidable (Bef u v):=by unfold Bef; infer_instance
instance (u v:Pt):Decidable (z6r u v):=by unfold z6r; infer_instance
def z1p (l:List Pt):Pt:=l.foldr ad (0,0)
def z7m (d:Pt) (l:List Pt):Pt:=z1p (l.filter (fun w=>decide (Bef w d)))
def z81 (d:Pt) (l:List Pt):Pt:=z1p (l.filter (fun w=>decide (z6r d w)))
theorem z1n (a:Pt):ad a (0,0)=a:=by simp [ad]
theorem x24 (a:Pt):ad (0,0) a=a:=by simp [ad]
theorem z2s (a b c:Pt):ad (ad a b) c=ad a (ad b c):=by simp only [ad]; exact Prod.ext (by simp; omega) (by simp; omega)
theorem w2i (a b:Pt):ad a b=ad b a:=by simp only [ad]; exact Prod.ext (by simp; omega) (by simp; omega)
theorem z2i:z1p []=(0,0):=rfl
theorem z01 (a:Pt) (l:List Pt):z1p (a::l)=ad a (z1p l):=rfl
theorem z26 (a b:List Pt):z1p (a++b)=ad (z1p a) (z1p b):=by
 induction a with
 |nil=>rw [List.nil_append,z2i,x24]
 |cons x a ih=>rw [List.cons_append,z01,z01,ih,z2s]
theorem y4j {a b:List Pt} (h:a.Perm b):z1p a=z1p b:=by
 induction h with
 |nil=>rfl
 |cons x _ ih=>rw [z01,z01,ih]
 |swap x y l=>rw [z01,z01,z01,z01, ←z2s, ←z2s,w2i x y]
 |trans _ _ h1 h2=>exact h1.trans h2
theorem z79 (d:Pt) (a b:List Pt):z7m d (a++b)=ad (z7m d a) (z7m d b):=by rw [z7m,List.filter_append,z26]; rfl
theorem y0l (d:Pt) (a b:List Pt):z81 d (a++b)=ad (z81 d a) (z81 d b):=by rw [z81,List.filter_append,z26]; rfl
theorem x86 (d:Pt) {a b:List Pt} (h:a.Perm b):z7m d a=z7m d b:=y4j (h.filter _)
theorem x85 (d:Pt) {a b:List Pt} (h:a.Perm b):z81 d a=z81 d b:=y4j (h.filter _)
theorem Bef.ne1 {u v:Pt} (h:Bef u v):u≠(0,0):=by
 rcases h with h|h|h
 ·exact y0d h.1
 ·exact y0d h.1
 ·rintro rfl; exact y0d h.1 (by simp [ng])
theorem Bef.ne2 {u v:Pt} (h:Bef u v):v≠(0,0):=by
 rcases h with h|h|h
 ·rintro rfl; exact y0d h.2 (by simp [ng])
 ·exact y0d h.2.1
 ·rintro rfl; exact y0d h.2.1 (by simp [ng])
theorem Bef.trans {u v w:Pt} (h1:Bef u v) (h2:Bef v w):Bef u w:=by
 rcases h1 with ⟨a,b⟩|⟨a,b,c⟩|⟨a,b,c⟩
 ·rcases h2 with ⟨d,e⟩|⟨d,e,f⟩|⟨d,e,f⟩
  ·exact absurd d (fun h=>z2d h b)
  ·exact absurd d (fun h=>z2d h b)
  ·exact .inl ⟨a,e⟩
 ·rcases h2 with ⟨d,e⟩|⟨d,e,f⟩|⟨d,e,f⟩
  ·exact .inl ⟨a,e⟩
  ·exact .inr (.inl ⟨a,e,z23 a b e (by omega) (by omega) (.inl c)⟩)
  ·exact absurd b (fun h=>z2d h d)
 ·rcases h2 with ⟨d,e⟩|⟨d,e,f⟩|⟨d,e,f⟩
  ·exact absurd d (fun h=>z2d h b)
  ·exact absurd d (fun h=>z2d h b)
  ·refine .inr (.inr ⟨a,e,?_⟩)
   have:=z23 a b e (by rw [crs_ng]; omega) (by rw [crs_ng]; omega) (.inl (by rw [crs_ng]; exact c))
   rwa [crs_ng] at this
theorem Bef.irrefl {u:Pt} (h:Bef u u):False:=by
 rcases h with ⟨a,b⟩|⟨a,b,c⟩|⟨a,b,c⟩
 ·exact z2d a b
 ·simp only [crs] at c; have:=Int.mul_comm u.1 u.2; omega
 ·simp only [crs] at c; have:=Int.mul_comm u.1 u.2; omega
theorem Bef.asymm {u v:Pt} (h1:Bef u v) (h2:Bef v u):False:=(h1.trans h2).irrefl
theorem z43 {u v:Pt} (h:z6r u v) (hu:Pos u):Pos v:=by
 obtain ⟨h1,h2⟩:=h
 obtain ⟨u1,u2⟩:=u; obtain ⟨v1,v2⟩:=v
 simp only [Pos,crs,dt] at*
 rcases hu with hu|⟨hu,hu2⟩
 ·left
  refine Classical.byContradiction fun hn=>?_
  have a:=Int.mul_nonneg (Int.le_of_lt hu) (show 0≤ -v1 by omega)
  rw [Int.mul_neg] at a
  have e:u1*(u2*v2)=u2*u2*v1:=by grind
  have b:u2*u2*v1≤0:=by
   have:=Int.mul_nonneg (sqn u2) (show 0≤ -v1 by omega)
   rw [Int.mul_neg] at this; omega
  have c:0<u2*v2:=by omega
  have:=Int.mul_pos hu c
  omega
 ·right
  subst hu
  have hv1:v1=0:=by
   have:u2*v1=0:=by omega
   rcases Int.mul_eq_zero.1 this with h|h
   ·omega
   ·exact h
  refine ⟨hv1,?_⟩
  refine Classical.byContradiction fun hn=>?_
  have a:=Int.mul_nonneg (Int.le_of_lt hu2) (show 0≤ -v2 by omega)
  rw [Int.mul_neg] at a
  omega
theorem y2f {u v:Pt} (h:z6r u v):z6r (ng u) (ng v):=by
 refine ⟨by rw [crs_ng]; exact h.1,?_⟩
 have:=h.2
 simp only [dt,ng,Int.neg_mul_neg] at*; exact this
theorem z6r.bef_r {u v w:Pt} (h:z6r v w) (hb:Bef u v):Bef u w:=by
 have k:∀ {u v w:Pt},z6r v w→0<crs u v→0<crs u w:=by
  intro u v w h h0
  have hm:=(h.mul u).1
  rw [z30 u v,z30 u w] at hm
  have:=z0x h.ne
  have:=h.2
  have e:dt v v*crs u w=dt v w*crs u v:=by rw [Int.mul_neg,Int.mul_neg] at hm; omega
  refine Classical.byContradiction fun hn=>?_
  have a:=Int.mul_pos h.2 h0
  have b:=Int.mul_nonneg (Int.le_of_lt (z0x h.ne)) (show 0≤ - crs u w by omega)
  rw [Int.mul_neg] at b; omega
 rcases hb with ⟨a,b⟩|⟨a,b,c⟩|⟨a,b,c⟩
 ·exact .inl ⟨a,z43 (y2f h) b⟩
 ·exact .inr (.inl ⟨a,z43 h b,k h c⟩)
 ·exact .inr (.inr ⟨a,z43 (y2f h) b,k h c⟩)
theorem z6r.bef_l {u v w:Pt} (h:z6r v w) (hb:Bef v u):Bef w u:=by
 have k:∀ {u v w:Pt},z6r v w→0<crs v u→0<crs w u:=by
  intro u v w h h0
  have hm:=(h.mul u).1
  refine Classical.byContradiction fun hn=>?_
  have a:=Int.mul_pos h.2 h0
  have b:=Int.mul_nonneg (Int.le_of_lt (z0x h.ne)) (show 0≤ - crs w u by omega)
  rw [Int.mul_neg] at b; omega
 rcases hb with ⟨a,b⟩|⟨a,b,c⟩|⟨a,b,c⟩
 ·exact .inl ⟨z43 h a,b⟩
 ·exact .inr (.inl ⟨z43 h a,b,k h c⟩)
 ·exact .inr (.inr ⟨z43 (y2f h) a,b,k h c⟩)
theorem y79 {u v:Pt} (hu:Pos u) (hv:Pos v) (h:crs u v=0):z6r u v:=by
 refine ⟨h,?_⟩
 obtain ⟨u1,u2⟩:=u; obtain ⟨v1,v2⟩:=v
 simp only [Pos,crs,dt] at*
 rcases hu with hu|⟨hu,hu2⟩
 ·rcases hv with hv|⟨hv,hv2⟩
  ·have a:=Int.mul_pos hu hv
   have e:u1*(u2*v2)=u2*u2*v1:=by grind
   have b:=Int.mul_nonneg (sqn u2) (Int.le_of_lt hv)
   have c:0≤u2*v2:=by
    refine Classical.byContradiction fun hn=>?_
    have:=Int.mul_neg_of_pos_of_neg hu (show u2*v2<0 by omega)
    omega
   omega
  ·subst hv
   have:=Int.mul_pos hu hv2
   omega
 ·subst hu
  rcases hv with hv|⟨hv,hv2⟩
  ·have:=Int.mul_pos hu2 hv
   omega
  ·subst hv
   have:=Int.mul_pos hu2 hv2
   omega
theorem y2q {u v:Pt} (hu:u≠(0,0)) (hv:v≠(0,0)):Bef u v∨z6r u v∨Bef v u:=by
 rcases y43 u hu with pu|pu<;>rcases y43 v hv with pv|pv
 ·rcases Int.lt_trichotomy (crs u v) 0 with h|h|h
  ·exact .inr (.inr (.inr (.inl ⟨pv,pu,by rw [z30]; omega⟩)))
  ·exact .inr (.inl (y79 pu pv h))
  ·exact .inl (.inr (.inl ⟨pu,pv,h⟩))
 ·exact .inl (.inl ⟨pu,pv⟩)
 ·exact .inr (.inr (.inl ⟨pv,pu⟩))
 ·rcases Int.lt_trichotomy (crs u v) 0 with h|h|h
  ·exact .inr (.inr (.inr (.inr ⟨pv,pu,by rw [z30]; omega⟩)))
  ·refine .inr (.inl ?_)
   have:=y2f (y79 pu pv (by rw [crs_ng]; exact h))
   rwa [x1j,x1j] at this
  ·exact .inl (.inr (.inr ⟨pu,pv,h⟩))
theorem z6r.not_bef {u v:Pt} (h:z6r u v):¬ Bef u v:=fun hb=>(h.symm.bef_r hb).irrefl
theorem z6r.not_bef' {u v:Pt} (h:z6r u v):¬ Bef v u:=fun hb=>(h.bef_r hb).irrefl
theorem y4b (p:Pt) (ws:List Pt):∃ r,x4p p ws=p::r:=by
 cases ws with
 |nil=>exact ⟨[],rfl⟩
 |cons w ws=>exact ⟨_,rfl⟩
theorem y96:∀ (ws:List Pt) (p:Pt),(x4p p ws).getLast?=some (ad p (z1p ws))
 |[],p=>by rw [z2i,z1n]; rfl
 |w::ws,p=>by
  obtain ⟨r,hr⟩:=y4b (ad p w) ws
  have:=y96 ws (ad p w)
  rw [x4p,hr,List.getLast?_cons_cons, ←hr,this,z01,z2s]
theorem z9t {S:List Pt}:∀ {E1:List Pt} {e:Pt} {E3:List Pt} {p:Pt},Pth S (x4p p (E1++e::E3))→Nx S (ad p (z1p E1)) (ad (ad p (z1p E1)) e)
 |[],e,E3,p,h=>by
  rw [z2i,z1n]
  obtain ⟨r,hr⟩:=y4b (ad p e) E3
  simp only [List.nil_append,x4p,hr] at h
  exact h.1
 |w::E1,e,E3,p,h=>by
  rw [z01, ←z2s]
  simp only [List.cons_append,x4p] at h
  exact z9t (E1:=E1) h.tail
theorem y4a {S:List Pt}:∀ {E:List Pt} {p:Pt},p∈S→Pth S (x4p p E)→∀ E1 E3,E=E1++E3→ad p (z1p E1)∈S
 |E,p,hp,h,[],E3,_=>by rw [z2i,z1n]; exact hp
 |[],p,hp,h,w::E1,E3,he=>by cases he
 |w'::E,p,hp,h,w::E1,E3,he=>by
  simp only [List.cons_append,List.cons.injEq] at he
  obtain ⟨rfl,he⟩:=he
  rw [z01, ←z2s]
  simp only [x4p] at h
  obtain ⟨r,hr⟩:=y4b (ad p w') E
  refine y4a (E:=E) ?_ h.tail E1 E3 he
  rw [hr] at h
  exact h.1.1
theorem x3k (a e:Pt):sb (ad a e) a=e:=by simp only [sb,ad]; exact Prod.ext (by simp; omega) (by simp; omega)
theorem x4d {S:List Pt} {a b c d:Pt} (h1:Nx S a b) (h2:Nx S b c) (hd1:0<crs (sb b a) d) (hd2:0<crs d (sb c b)):y17 S d b b:=by
 have key:∀ x∈S,0≤crs d (sb x b)∧(crs d (sb x b)=0→x=b):=by
  intro x hx
  have p1:0≤crs (sb b a) (sb x b):=by
   have:=(h1.2.2 x hx).1
   have e:cr a b x=crs (sb b a) (sb x b):=by simp only [cr,crs,sb]; grind
   omega
  have p2:0≤crs (sb c b) (sb x b):=(h2.2.2 x hx).1
  have hD:0≤crs (sb b a) (sb c b):=by
   have:=(h1.2.2 c h2.1).1
   have e:cr a b c=crs (sb b a) (sb c b):=by simp only [cr,crs,sb]; grind
   omega
  have p3:crs (sb c b) (sb x b)=0→0≤dt (sb c b) (sb x b):=fun h=>((h2.2.2 x hx).2 h).1
  have hn:sb c b≠(0,0):=fun h=>h2.2.1 (z1a.1 h).symm
  generalize sb b a=p at*
  generalize sb c b=n at*
  have hv:sb x b=(0,0)→x=b:=z1a.1
  generalize sb x b=v at*
  have id1:crs p n*crs d v=crs d n*crs p v+crs p d*crs n v:=by simp only [crs]; grind
  rcases Int.lt_or_eq_of_le hD with hD|hD
  ·have a1:=Int.mul_nonneg (Int.le_of_lt hd2) p1
   have a2:=Int.mul_nonneg (Int.le_of_lt hd1) p2
   refine ⟨?_,fun h0=>hv ?_⟩
   ·refine Classical.byContradiction fun hc=>?_
    have:=Int.mul_neg_of_pos_of_neg hD (Int.not_le.1 hc)
    omega
   ·rw [h0,Int.mul_zero] at id1
    have z1:crs d n*crs p v=0:=by omega
    have z2:crs p d*crs n v=0:=by omega
    have z1:crs p v=0:=by rcases Int.mul_eq_zero.1 z1 with h|h<;>omega
    have z2:crs n v=0:=by rcases Int.mul_eq_zero.1 z2 with h|h<;>omega
    have e1:crs p n*v.1=n.1*crs p v - p.1*crs n v:=by simp only [crs]; grind
    have e2:crs p n*v.2=n.2*crs p v - p.2*crs n v:=by simp only [crs]; grind
    rw [z1,z2] at e1 e2
    simp only [Int.mul_zero,Int.sub_zero] at e1 e2
    refine Prod.ext ?_ ?_
    ·rcases Int.mul_eq_zero.1 e1 with h|h
     ·omega
     ·exact h
    ·rcases Int.mul_eq_zero.1 e2 with h|h
     ·omega
     ·exact h
  ·have a1:=Int.mul_nonneg (Int.le_of_lt hd2) p1
   have a2:=Int.mul_nonneg (Int.le_of_lt hd1) p2
   rw [←hD,Int.zero_mul] at id1
   have z2:crs p d*crs n v=0:=by omega
   have z2:crs n v=0:=by rcases Int.mul_eq_zero.1 z2 with h|h<;>omega
   have hdt:=p3 z2
   have hnn:=z0x hn
   have id2:dt n n*crs d v=dt n v*crs d n+crs n v*dt n d:=by simp only [crs,dt]; grind
   rw [z2,Int.zero_mul,Int.add_zero] at id2
   have a3:=Int.mul_nonneg hdt (Int.le_of_lt hd2)
   refine ⟨?_,fun h0=>hv ?_⟩
   ·refine Classical.byContradiction fun hc=>?_
    have:=Int.mul_neg_of_pos_of_neg hnn (Int.not_le.1 hc)
    omega
   ·rw [h0,Int.mul_zero] at id2
    have:dt n v=0:=by rcases Int.mul_eq_zero.1 id2.symm with h|h<;>omega
    exact z6p hn z2 this
 have hb:b∈S:=h1.1
 refine ⟨hb,hb,by simp [crs,sb],fun x hx=>(key x hx).1,fun x hx h0=>?_⟩
 have:=(key x hx).2 h0
 subst this
 simp [dt,sb]
theorem x2p {p n d:Pt} (hpn:0≤crs p n) (h:(Bef p d∧Bef d n)∨(Bef d n∧Pos n∧Pos (ng p))∨(Bef p d∧Pos n∧Pos (ng p))):0<crs p d∧0<crs d n:=by
 have T:=@z23
 rcases h with ⟨h1,h2⟩|⟨h1,h2,h3⟩|⟨h1,h2,h3⟩
 ·rcases h1 with ⟨a,b⟩|⟨a,b,c⟩|⟨a,b,c⟩
  ·rcases h2 with ⟨d',e⟩|⟨d',e,f⟩|⟨d',e,f⟩
   ·exact absurd d' (fun h=>z2d h b)
   ·exact absurd d' (fun h=>z2d h b)
   ·refine ⟨?_,f⟩
    have:=T b e a (by rw [crs_ng]; omega) (by rw [y9f,z30]; omega) (.inl (by rw [crs_ng]; exact f))
    rw [y9f,z30] at this; omega
  ·rcases h2 with ⟨d',e⟩|⟨d',e,f⟩|⟨d',e,f⟩
   ·refine ⟨c,?_⟩
    have:=T e a b (by rw [y9f,z30]; omega) (by omega) (.inr c)
    rw [y9f,z30] at this; omega
   ·exact ⟨c,f⟩
   ·exact absurd b (fun h=>z2d h d')
  ·rcases h2 with ⟨d',e⟩|⟨d',e,f⟩|⟨d',e,f⟩
   ·exact absurd d' (fun h=>z2d h b)
   ·exact absurd d' (fun h=>z2d h b)
   ·exact ⟨c,f⟩
 ·rcases h1 with ⟨a,b⟩|⟨a,b,c⟩|⟨a,b,c⟩
  ·exact absurd h2 (fun h=>z2d h b)
  ·refine ⟨?_,c⟩
   have:=T a h2 h3 (by omega) (by rw [y9e,z30]; omega) (.inl c)
   rw [y9e,z30] at this; omega
  ·exact absurd h2 (fun h=>z2d h b)
 ·rcases h1 with ⟨a,b⟩|⟨a,b,c⟩|⟨a,b,c⟩
  ·exact absurd a (fun h=>z2d h h3)
  ·exact absurd a (fun h=>z2d h h3)
  ·refine ⟨c,?_⟩
   have:=T h2 h3 b (by rw [y9e,z30]; omega) (by rw [crs_ng]; omega) (.inr (by rw [crs_ng]; exact c))
   rw [y9e,z30] at this; omega
theorem y7a {l:List Pt} {P:Pt→Bool} (h:∀ x∈l,P x=true):l.filter P=l:=List.filter_eq_self.2 h
theorem z4y {l:List Pt} {P:Pt→Bool} (h:∀ x∈l,P x=false):l.filter P=[]:=List.filter_eq_nil_iff.2 (fun x hx=>by rw [h x hx]; simp)
theorem x0w (d:Pt):∀ (E:List Pt),E.Pairwise Bef→∃ E1 E2,E=E1++E2∧(∀ x∈E1,Bef x d)∧(∀ x∈E2,¬ Bef x d)
 |[],_=>⟨[],[],rfl,by simp,by simp⟩
 |e::E,h=>by
  by_cases he:Bef e d
  ·obtain ⟨E1,E2,h1,h2,h3⟩:=x0w d E (List.pairwise_cons.1 h).2
   refine ⟨e::E1,E2,by rw [h1]; rfl,fun x hx=>?_,h3⟩
   rcases List.mem_cons.1 hx with rfl|hx
   ·exact he
   ·exact h2 x hx
  ·refine ⟨[],e::E,rfl,by simp,fun x hx hb=>?_⟩
   rcases List.mem_cons.1 hx with rfl|hx
   ·exact he hb
   ·exact he (((List.pairwise_cons.1 h).1 x hx).trans hb)
theorem x8z {S:List Pt}:∀ {l:List Pt},Pth S l→∀ w∈ways l,w≠(0,0)
 |[],_,w,hw=>by simp [ways] at hw
 |[_],_,w,hw=>by simp [ways] at hw
 |a::b::l,h,w,hw=>by
  rcases List.mem_cons.1 hw with rfl|hw
  ·exact fun e=>h.1.2.1 (z1a.1 e).symm
  ·exact x8z (l:=b::l) h.2 w hw
theorem y1y {S:List Pt} {a b:Pt} {r:List Pt} (h:Cyc S (a::b::r)):
  Pth S (x4p a (wy (a::b::r)))∧z1p (wy (a::b::r))=(0,0)∧(∀ w∈wy (a::b::r),w≠(0,0))∧wy (a::b::r)≠[]:=by
 have hp:Pth S (a::b::r++[a]):=by
  rcases h.2.2 with ⟨h,_⟩|⟨_,h,_⟩
  ·cases h
  ·exact h
 have hw:x4p a (wy (a::b::r))=a::b::r++[a]:=y95 (b::r++[a]) a
 refine ⟨by rw [hw]; exact hp,?_,x8z hp,by simp [wy,ways]⟩
 have:=y96 (wy (a::b::r)) a
 rw [hw] at this
 have h2:(a::b::r++[a]).getLast?=some a:=by rw [List.getLast?_append]; simp
 rw [h2] at this
 have:=Option.some.inj this
 simp only [ad] at this
 have e1:=congrArg Prod.fst this
 have e2:=congrArg Prod.snd this
 simp only at e1 e2
 exact Prod.ext (by simp; omega) (by simp; omega)
def hd0 (c:List Pt):Pt:=c.headD (0,0)
theorem w1g {S:List Pt} {a b:Pt} {r:List Pt} (h:Cyc S (a::b::r)) {d:Pt} (hd:d≠(0,0)):
  ∃ α,α∈S∧α=ad a (z7m d (wy (a::b::r)))∧((∃ β,Nx S α β∧z6r d (sb β α)∧ad α (z81 d (wy (a::b::r)))=β)∨
   (z81 d (wy (a::b::r))=(0,0)∧∃ q β,q∈S∧Nx S q α∧Nx S α β∧0<crs (sb α q) d∧0<crs d (sb β α))):=by
  obtain ⟨hp,hsum,hnz,hne⟩:=y1y h
  have hs:=w9w h
  have hc0:∀ x∈S,Le a x:=h.2.1
  have haS:a∈S:=h.1
  generalize wy (a::b::r)=E at*
  obtain ⟨E1,E2,rfl,hb1,hb2⟩:=x0w d E hs
  have hB:z7m d (E1++E2)=z1p E1:=by
   rw [z79,z7m,z7m,y7a (fun x hx=>by simpa using hb1 x hx),z4y (fun x hx=>by simpa using hb2 x hx),z2i,z1n]
  have hS1:z81 d E1=(0,0):=by
   rw [z81,z4y (fun x hx=>?_)]; · rfl
   have:=hb1 x hx
   simp only [decide_eq_false_iff_not]
   exact fun hs=>hs.not_bef' this
  have hin:=y4a haS hp E1 E2 rfl
  rw [hB,y0l,hS1,x24]
  refine ⟨_,hin,rfl,?_⟩
  by_cases hsame:∃ e E3,E2=e::E3∧z6r d e
  ·obtain ⟨e,E3,rfl,he⟩:=hsame
   have hS2:z81 d (e::E3)=e:=by
    have h3:∀ x∈E3,Bef e x:=by
     rw [List.pairwise_append] at hs
     exact (List.pairwise_cons.1 hs.2.1).1
    rw [z81,List.filter_cons_of_pos (by simpa using he),z4y (fun x hx=>?_),z01,z2i,z1n]
    simp only [decide_eq_false_iff_not]
    exact fun hs=>hs.not_bef (he.symm.bef_l (h3 x hx))
   have hnx:=z9t hp
   exact .inl ⟨_,hnx,by rw [x3k]; exact he,by rw [hS2]⟩
  ·have hE2:∀ x∈E2,Bef d x:=by
    intro x hx
    have hxn:x≠(0,0):=hnz x (List.mem_append_right _ hx)
    rcases y2q hd hxn with h|h|h
    ·exact h
    ·
     match E2,hsame,hx,hb2 with
     |e::E3,hsame,hx,hb2=>
      rcases List.mem_cons.1 hx with rfl|hx
      ·exact absurd ⟨_,_,rfl,h⟩ hsame
      ·rw [List.pairwise_append] at hs
       have:=(List.pairwise_cons.1 hs.2.1).1 x hx
       exact absurd (h.symm.bef_r this) (hb2 e (by simp))
    ·exact absurd h (hb2 x hx)
   have hS2:z81 d E2=(0,0):=by
    rw [z81,z4y (fun x hx=>?_)]; · rfl
    simp only [decide_eq_false_iff_not]
    exact fun hs=>hs.not_bef (hE2 x hx)
   refine .inr ⟨hS2,?_⟩
   have hprev:∃ p q,q∈S∧Nx S q (ad a (z1p E1))∧sb (ad a (z1p E1)) q=p∧((E1≠[]∧Bef p d)∨(E1=[]∧Pos (ng p))):=by
    rcases List.eq_nil_or_concat E1 with rfl|⟨E',p,rfl⟩
    ·rcases List.eq_nil_or_concat E2 with rfl|⟨E',p,rfl⟩
     ·exact absurd rfl hne
     ·rw [List.concat_eq_append,List.nil_append] at hp hsum
      have hnx:=z9t (E1:=E') (e:=p) (E3:=[]) hp
      have e0:ad (ad a (z1p E')) p=a:=by
       rw [z26,z01,z2i,z1n] at hsum
       rw [z2s,hsum,z1n]
      rw [e0] at hnx
      refine ⟨p,_,y4a haS hp E' [p] rfl,by rw [z2i,z1n]; exact hnx,?_, .inr ⟨rfl,?_⟩⟩
      ·have:=x3k (ad a (z1p E')) p
       rw [e0] at this
       rw [z2i,z1n]; exact this
      ·have hq:ad a (z1p E')∈S:=y4a haS hp E' [p] rfl
       have hle:=hc0 _ hq
       have e1:=congrArg Prod.fst e0
       have e2:=congrArg Prod.snd e0
       have hp0:p≠(0,0):=hnz p (by simp)
       have hp1:¬ (p.1=0∧p.2=0):=fun e=>hp0 (Prod.ext e.1 e.2)
       rcases hle with hle|hle
       ·have e3:=congrArg Prod.fst hle
        have e4:=congrArg Prod.snd hle
        simp only [ad] at e1 e2 e3 e4
        exact absurd ⟨by omega,by omega⟩ hp1
       ·simp only [ad,Lt,Pos,sb,ng] at*
        omega
    ·rw [List.concat_eq_append] at*
     have hp':Pth S (x4p a (E'++p::E2)):=by simpa using hp
     have hnx:=z9t hp'
     have e0:ad a (z1p (E'++[p]))=ad (ad a (z1p E')) p:=by rw [z26,z01,z2i,z1n,z2s]
     rw [e0]
     exact ⟨p,_,y4a haS hp' E' (p::E2) rfl,hnx,x3k _ _, .inl ⟨by simp,hb1 p (by simp)⟩⟩
   have hnext:∃ n q,Nx S (ad a (z1p E1)) q∧sb q (ad a (z1p E1))=n∧((E2≠[]∧Bef d n∧(E1=[]→Pos n))∨(E2=[]∧Pos n)):=by
    match E2,hE2 with
    |[],hE2=>
     match E1,hne with
     |n::E1,hne=>
      rw [List.append_nil] at hp hsum
      have hnx:=z9t (E1:=[]) (e:=n) (E3:=E1) hp
      rw [z2i,z1n] at hnx
      rw [hsum,z1n]
      refine ⟨n,_,hnx,x3k _ _, .inr ⟨rfl,?_⟩⟩
      rcases hc0 _ hnx.1 with h|h
      ·exact absurd h hnx.2.1
      ·have h':Pos (sb (ad a n) a):=h
       rwa [x3k] at h'
    |n::E3,hE2=>
     have hnx:=z9t hp
     refine ⟨n,_,hnx,x3k _ _, .inl ⟨by simp,hE2 n (by simp),fun e=>?_⟩⟩
     subst e
     rw [z2i,z1n] at hnx
     rcases hc0 _ hnx.1 with h|h
     ·exact absurd h hnx.2.1
     ·have h':Pos (sb (ad a n) a):=h
      rwa [x3k] at h'
   obtain ⟨p,q,hqS,n1,rfl,p2⟩:=hprev
   obtain ⟨n,q',n2,rfl,p3⟩:=hnext
   have hpn:0≤crs (sb (ad a (z1p E1)) q) (sb q' (ad a (z1p E1))):=by
    have:=(n1.2.2 q' n2.1).1
    have e:cr q (ad a (z1p E1)) q'=crs (sb (ad a (z1p E1)) q) (sb q' (ad a (z1p E1))):=by simp only [cr,crs,sb]; grind
    omega
   have:=x2p hpn (d:=d) (by
    rcases p2 with ⟨a1,a2⟩|⟨a1,a2⟩
    ·rcases p3 with ⟨b1,b2,b3⟩|⟨b1,b2⟩
     ·exact .inl ⟨a2,b2⟩
     ·refine .inr (.inr ⟨a2,b2,?_⟩)
      subst b1
      rw [List.append_nil] at hsum hnz
      rcases y43 (sb (ad a (z1p E1)) q) a2.ne1 with hpp|hpp
      ·exfalso
       rw [hsum,z1n] at hpp n1
       rcases hc0 q hqS with h|h
       ·exact n1.2.1 h.symm
       ·exact h.asymm hpp
      ·exact hpp
    ·rcases p3 with ⟨b1,b2,b3⟩|⟨b1,b2⟩
     ·exact .inr (.inl ⟨b2,b3 a1,a2⟩)
     ·exact absurd (show E1++E2=[] by rw [a1,b1]; rfl) hne)
   exact ⟨_,_,hqS,n1,n2,this.1,this.2⟩
theorem z64 {S c:List Pt} (h:Cyc S c) {d:Pt} (hd:d≠(0,0)):y17 S d (ad (hd0 c) (z7m d (wy c))) (ad (ad (hd0 c) (z7m d (wy c))) (z81 d (wy c))):=by
 match c,h with
 |[a],h=>
  have hS:∀ x∈S,x=a:=by
   rcases h.2.2 with ⟨_,h⟩|⟨h,_⟩
   ·exact h
   ·exact absurd rfl h
  show y17 S d (ad a (0,0)) (ad (ad a (0,0)) (0,0))
  rw [z1n,z1n]
  refine ⟨h.1,h.1,by simp [crs,sb],fun x hx=>?_,fun x hx _=>?_⟩
  ·rw [hS x hx]; simp [crs,sb]
  ·rw [hS x hx]; simp [dt,sb]
 |a::b::r,h=>
  obtain ⟨α,h1,h2,h3⟩:=w1g h hd
  show y17 S d (ad a (z7m d (wy (a::b::r)))) (ad (ad a (z7m d (wy (a::b::r)))) (z81 d (wy (a::b::r))))
  rw [←h2]
  rcases h3 with ⟨β,k1,k2,k3⟩|⟨k1,q,β,k2,k3,k4,k5,k6⟩
  ·rw [k3]; exact (y8m h1 k1).same k2.symm
  ·rw [k1,z1n]; exact x4d k3 k4 k5 k6
end M06
end
section
namespace M06
def grp:Pt→List Pt→List Pt
 |_,[]=>[]
 |now,[w]=>[ad now w]
 |now,w::w'::ws=>if z6r w w' then grp (ad now w) (w'::ws) else ad now w::grp (ad now w) (w'::ws)
def w3w (s0:Pt) (ws:List Pt):List Pt:=if 1<(s0::grp s0 ws).length then (s0::grp s0 ws).dropLast else s0::grp s0 ws
theorem x5w:∀ (now w:Pt) (ws:List Pt),grp now (w::ws)≠[]
 |now,w,[]=>by simp [grp]
 |now,w,w'::ws=>by
  rw [grp]; split
  ·exact x5w _ _ _
  ·simp
theorem v5p {a b c:Pt} (h:Bef a b) (hc:c≠(0,0)) (h2:¬ Bef c b):Bef a c:=by
 rcases y2q h.ne2 hc with k|k|k
 ·exact h.trans k
 ·exact k.bef_r h
 ·exact absurd k h2
theorem w6k {a b c:Pt} (ha:a≠(0,0)) (h2:¬ Bef b a) (h:Bef b c):Bef a c:=by
 rcases y2q h.ne1 ha with k|k|k
 ·exact absurd k h2
 ·exact k.bef_l h
 ·exact k.trans h
theorem x0i {d:Pt}:∀ {l:List Pt},(∀ u∈l,Bef u d∨z6r d u)→z1p l=ad (z7m d l) (z81 d l)
 |[],_=>rfl
 |u::l,h=>by
  have ih:=x0i (l:=l) (fun x hx=>h x (List.mem_cons_of_mem _ hx))
  rcases h u (by simp) with hb|hs
  ·rw [z7m,z81,List.filter_cons_of_pos (by simpa using hb),List.filter_cons_of_neg (by simpa using fun hs:z6r d u=>hs.not_bef' hb),z01,z01,ih,z2s]
   rfl
  ·rw [z7m,z81,List.filter_cons_of_neg (by simpa using hs.not_bef'),List.filter_cons_of_pos (by simpa using hs),z01,z01,ih]
   show ad u (ad (z7m d l) (z81 d l))=ad (z7m d l) (ad u (z81 d l))
   rw [←z2s, ←z2s,w2i u]
theorem y4k {d:Pt} {l:List Pt} (h:∀ x∈l,¬ Bef x d):z7m d l=(0,0):=by
 rw [z7m,z4y (fun x hx=>by simpa using h x hx)]; rfl
theorem x0j {d:Pt} {l:List Pt} (h:∀ x∈l,¬ z6r d x):z81 d l=(0,0):=by
 rw [z81,z4y (fun x hx=>by simpa using h x hx)]; rfl
theorem w3a {d:Pt} {l:List Pt} (h:∀ x∈l,Bef x d):z7m d l=z1p l:=by
 rw [z7m,y7a (fun x hx=>by simpa using h x hx)]
theorem y1g:∀ {l:List Pt},l≠[]→(∀ x∈l,Pos x)→Pos (z1p l)
 |[x],_,h=>by rw [z01,z2i,z1n]; exact h x (by simp)
 |x::y::l,_,h=>by
  rw [z01]
  exact w76 (h x (by simp)) (y1g (l:=y::l) (by simp) (fun z hz=>h z (List.mem_cons_of_mem _ hz)))
theorem x29:∀ (l:List Pt),z1p (l.map ng)=ng (z1p l)
 |[]=>by simp [z1p,ng]
 |x::l=>by
  rw [List.map_cons,z01,z01,x29 l]
  simp only [ad,ng]; exact Prod.ext (by simp; omega) (by simp; omega)
theorem w4i {T ws:List Pt} {s0:Pt} (hnz:∀ w∈ws,w≠(0,0)) (hs:ws.Pairwise (fun u v=>¬ Bef v u))
  (hf:∀ d,d≠(0,0)→y17 T d (ad s0 (z7m d ws)) (ad (ad s0 (z7m d ws)) (z81 d ws))):
  ∀ (ws2 ws1:List Pt) (w cur:Pt),ws=ws1++w::ws2→cur=ad s0 (z7m w ws)→
   Pth T (cur::grp (ad s0 (z1p ws1)) (w::ws2))∧(grp (ad s0 (z1p ws1)) (w::ws2)).getLast?=some (ad s0 (z1p ws))∧
   ∀ x∈(grp (ad s0 (z1p ws1)) (w::ws2)).dropLast,∃ l1 l2,ws=l1++l2∧l1≠[]∧l2≠[]∧x=ad s0 (z1p l1)∧∀ u∈l1,∀ v∈l2,Bef u v:=by
 have step:∀ (l1 l2:List Pt) (w:Pt),ws=l1++l2→w∈l1→(∀ u∈l1,¬ Bef w u)→(∀ v∈l2,Bef w v)→Nx T (ad s0 (z7m w ws)) (ad s0 (z1p l1)):=by
  intro l1 l2 w he hw h1 h2
  have hw0:w≠(0,0):=hnz w (by rw [he]; exact List.mem_append_left _ hw)
  have e1:z7m w ws=z7m w l1:=by
   rw [he,z79,y4k (l:=l2) (fun x hx hb=>(h2 x hx).asymm hb),z1n]
  have e2:z81 w ws=z81 w l1:=by
   rw [he,y0l,x0j (l:=l2) (fun x hx hs=>hs.not_bef (h2 x hx)),z1n]
  have e3:z1p l1=ad (z7m w ws) (z81 w ws):=by
   rw [e1,e2]
   refine x0i fun u hu=>?_
   have hu0:u≠(0,0):=hnz u (by rw [he]; exact List.mem_append_left _ hu)
   rcases y2q hw0 hu0 with k|k|k
   ·exact absurd k (h1 u hu)
   ·exact .inr k
   ·exact .inl k
  have hF:=hf w hw0
  rw [z2s, ←e3] at hF
  refine (face_nx hw0 hF fun hab=>?_).1
  have hz:z81 w ws=(0,0):=by
   rw [e3, ←z2s] at hab
   have a1:=congrArg Prod.fst hab
   have a2:=congrArg Prod.snd hab
   simp only [ad] at a1 a2
   exact Prod.ext (by simp; omega) (by simp; omega)
  have hfil:(ws.filter (fun x=>decide (z6r w x)))≠[]:=by
   intro hn
   have hww:w∈ws:=by rw [he]; exact List.mem_append_left _ hw
   have:=List.filter_eq_nil_iff.1 hn w hww
   simp only [decide_eq_true_eq] at this
   refine this ⟨by simp only [crs]; have:=Int.mul_comm w.1 w.2; omega,?_⟩
   exact z0x hw0
  rcases y43 w hw0 with hp|hp
  ·have:=y1g hfil (fun x hx=>z43 (by simpa using (List.mem_filter.1 hx).2) hp)
   exact y0d this hz
  ·have:=y1g (l:=(ws.filter (fun x=>decide (z6r w x))).map ng) (by simpa using hfil) (fun x hx=>by
    obtain ⟨y,hy,rfl⟩:=List.mem_map.1 hx
    have hsy:z6r w y:=by simpa using (List.mem_filter.1 hy).2
    exact z43 (y2f hsy) hp)
   rw [x29] at this
   refine y0d this ?_
   show ng (z81 w ws)=_
   rw [hz]; rfl
 intro ws2
 induction ws2 with
 |nil=>
  intro ws1 w cur he hcur
  have hle:∀ u∈ws1++[w],¬ Bef w u:=by
   intro u hu hb
   rcases List.mem_append.1 hu with h|h
   ·rw [he,List.pairwise_append] at hs
    exact hs.2.2 u h w (by simp) hb
   ·simp at h; subst h; exact hb.irrefl
  have hn:=step (ws1++[w]) [] w (by rw [he]; simp) (by simp) hle (by simp)
  have e:ad (ad s0 (z1p ws1)) w=ad s0 (z1p (ws1++[w])):=by rw [z26,z01,z2i,z1n,z2s]
  refine ⟨⟨?_,trivial⟩,?_,by simp [grp]⟩
  ·rw [hcur,e]; exact hn
  ·simp only [grp,List.getLast?_singleton]
   rw [e,he]
 |cons w' ws2 ih=>
  intro ws1 w cur he hcur
  have he':ws=(ws1++[w])++w'::ws2:=by rw [he]; simp
  have e:ad (ad s0 (z1p ws1)) w=ad s0 (z1p (ws1++[w])):=by rw [z26,z01,z2i,z1n,z2s]
  have hw0:w≠(0,0):=hnz w (by rw [he]; simp)
  have hw0':w'≠(0,0):=hnz w' (by rw [he]; simp)
  by_cases hsame:z6r w w'
  ·rw [grp,if_pos hsame,e]
   refine ih (ws1++[w]) w' cur he' ?_
   rw [hcur]
   congr 1
   rw [z7m,z7m]
   congr 1
   refine List.filter_congr fun x _=>?_
   rw [decide_eq_decide]
   exact ⟨fun h=>hsame.bef_r h,fun h=>hsame.symm.bef_r h⟩
  ·rw [grp,if_neg hsame,e]
   have hww:Bef w w':=by
    rcases y2q hw0 hw0' with k|k|k
    ·exact k
    ·exact absurd k hsame
    ·rw [he',List.pairwise_append] at hs
     exact absurd k (hs.2.2 w (by simp) w' (by simp))
   have hle:∀ u∈ws1++[w],¬ Bef w u:=by
    intro u hu hb
    rcases List.mem_append.1 hu with h|h
    ·rw [he,List.pairwise_append] at hs
     exact hs.2.2 u h w (by simp) hb
    ·simp at h; subst h; exact hb.irrefl
   have hge:∀ v∈w'::ws2,¬ Bef v w':=by
    intro v hv hb
    rcases List.mem_cons.1 hv with h|h
    ·subst h; exact hb.irrefl
    ·rw [he',List.pairwise_append] at hs
     exact (List.pairwise_cons.1 hs.2.1).1 v h hb
   have hall:∀ u∈ws1++[w],∀ v∈w'::ws2,Bef u v:=by
    intro u hu v hv
    have h1:Bef w v:=v5p hww (hnz v (by rw [he']; exact List.mem_append_right _ hv)) (hge v hv)
    exact w6k (hnz u (by rw [he']; exact List.mem_append_left _ hu)) (hle u hu) h1
   have hn:=step (ws1++[w]) (w'::ws2) w he' (by simp) hle (fun v hv=>hall w (by simp) v hv)
   have hcur':ad s0 (z1p (ws1++[w]))=ad s0 (z7m w' ws):=by
    congr 1
    rw [he',z79,y4k (l:=w'::ws2) hge,z1n,w3a (fun u hu=>hall u hu w' (by simp))]
   obtain ⟨i1,i2,i3⟩:=ih (ws1++[w]) w' _ he' hcur'
   refine ⟨⟨by rw [hcur]; exact hn,i1⟩,?_,?_⟩
   ·obtain ⟨a,r,hg⟩:∃ a r,grp (ad s0 (z1p (ws1++[w]))) (w'::ws2)=a::r:=by
     match hq:grp (ad s0 (z1p (ws1++[w]))) (w'::ws2) with
     |[]=>exact absurd hq (x5w _ _ _)
     |a::r=>exact ⟨a,r,rfl⟩
    rw [hg] at i2⊢
    rw [List.getLast?_cons_cons]; exact i2
   ·intro x hx
    obtain ⟨a,r,hg⟩:∃ a r,grp (ad s0 (z1p (ws1++[w]))) (w'::ws2)=a::r:=by
     match hq:grp (ad s0 (z1p (ws1++[w]))) (w'::ws2) with
     |[]=>exact absurd hq (x5w _ _ _)
     |a::r=>exact ⟨a,r,rfl⟩
    rw [hg] at hx i3
    rw [List.dropLast_cons_cons] at hx
    rcases List.mem_cons.1 hx with rfl|hx
    ·exact ⟨ws1++[w],w'::ws2,he',by simp,by simp,rfl,hall⟩
    ·exact i3 x hx
theorem y8o {A B T a b ws:List Pt} (hA:Cyc A a) (hB:Cyc B b) (hT:∀ z,z∈T↔∃ x∈A,∃ y∈B,z=ad x y) (hp:ws.Perm (wy a++wy b)) (hs:ws.Pairwise (fun u v=>¬ Bef v u)):
  Cyc T (w3w (ad (hd0 a) (hd0 b)) ws):=by
 have hf:∀ d,d≠(0,0)→y17 T d (ad (ad (hd0 a) (hd0 b)) (z7m d ws)) (ad (ad (ad (hd0 a) (hd0 b)) (z7m d ws)) (z81 d ws)):=by
  intro d hd
  have:=(z64 hA hd).sum hT (z64 hB hd)
  rw [x86 d hp,x85 d hp,z79,y0l]
  have sw:∀ x y z w:Pt,ad (ad x y) (ad z w)=ad (ad x z) (ad y w):=by
   intros; simp only [ad]; exact Prod.ext (by simp; omega) (by simp; omega)
  rw [sw (hd0 a) (hd0 b) (z7m d (wy a)) (z7m d (wy b)),sw (ad (hd0 a) (z7m d (wy a))) (ad (hd0 b) (z7m d (wy b))) (z81 d (wy a)) (z81 d (wy b))]
  exact this
 have wprop:∀ {S c:List Pt},Cyc S c→z1p (wy c)=(0,0)∧(∀ w∈wy c,w≠(0,0))∧hd0 c∈S∧∀ x∈S,Le (hd0 c) x:=by
  intro S c h
  match c,h with
  |[x],h=>exact ⟨rfl,by simp [wy],h.1,h.2.1⟩
  |x::y::r,h=>
   have:=y1y h
   exact ⟨this.2.1,this.2.2.1,h.1,h.2.1⟩
 obtain ⟨a1,a2,a3,a4⟩:=wprop hA
 obtain ⟨b1,b2,b3,b4⟩:=wprop hB
 have hnz:∀ w∈ws,w≠(0,0):=fun w hw=>by
  rcases List.mem_append.1 (hp.mem_iff.1 hw) with h|h
  ·exact a2 w h
  ·exact b2 w h
 have hsum:z1p ws=(0,0):=by rw [y4j hp,z26,a1,b1]; rfl
 generalize hs0:ad (hd0 a) (hd0 b)=s0 at*
 have hin:s0∈T:=(hT _).2 ⟨_,a3,_,b3,hs0.symm⟩
 have hle:∀ x∈T,Le s0 x:=by
  intro z hz
  obtain ⟨x,hx,y,hy,rfl⟩:=(hT z).1 hz
  have h1:=a4 x hx
  have h2:=b4 y hy
  rw [←hs0]
  generalize hd0 a=p at*
  generalize hd0 b=q at*
  rcases h1 with rfl|h1
  ·rcases h2 with rfl|h2
   ·exact .inl rfl
   ·right; simp only [Lt,Pos,sb,ad] at*; omega
  ·rcases h2 with rfl|h2
   ·right; simp only [Lt,Pos,sb,ad] at*; omega
   ·right; simp only [Lt,Pos,sb,ad] at*; omega
 match ws,hp,hs,hf,hnz,hsum with
 |[],hp,hs,hf,hnz,hsum=>
  have:w3w s0 []=[s0]:=by simp [w3w,grp]
  rw [this]
  refine ⟨hin,hle, .inl ⟨rfl,fun x hx=>?_⟩⟩
  have f1:=(hf (1,0) (by simp)).left x hx
  have f2:=(hf (-1,0) (by simp)).left x hx
  have f3:=(hf (0,1) (by simp)).left x hx
  have f4:=(hf (0, -1) (by simp)).left x hx
  simp only [z7m,z1p,List.filter_nil,List.foldr_nil,z1n,crs,sb] at f1 f2 f3 f4
  exact Prod.ext (by omega) (by omega)
 |w::ws,hp,hs,hf,hnz,hsum=>
  have hcur:s0=ad s0 (z7m w (w::ws)):=by
   rw [y4k (fun x hx hb=>?_),z1n]
   rcases List.mem_cons.1 hx with h|h
   ·subst h; exact hb.irrefl
   ·exact (List.pairwise_cons.1 hs).1 x h hb
  obtain ⟨p1,p2,p3⟩:=w4i hnz hs hf ws [] w s0 rfl hcur
  rw [z2i,z1n] at p1 p2 p3
  rw [hsum,z1n] at p2
  obtain ⟨r,hr⟩:∃ r,grp s0 (w::ws)=r++[s0]:=by
   have hne:=x5w s0 w ws
   refine ⟨(grp s0 (w::ws)).dropLast,?_⟩
   have:=List.dropLast_concat_getLast hne
   rw [List.getLast?_eq_some_getLast hne] at p2
   rw [Option.some.inj p2] at this
   exact this.symm
  rw [hr] at p1 p3
  have hm:w3w s0 (w::ws)=s0::r:=by
   rw [w3w,hr,if_pos (by simp), ←List.cons_append,List.dropLast_concat]
  rw [hm]
  rw [List.dropLast_concat] at p3
  refine ⟨hin,hle, .inr ⟨?_,p1,fun hmem=>?_⟩⟩
  ·rintro rfl
   exact p1.1.2.1 rfl
  ·obtain ⟨l1,l2,h1,h2,h3,h4,h5⟩:=p3 s0 hmem
   have hz1:z1p l1=(0,0):=by
    have a1:=congrArg Prod.fst h4
    have a2:=congrArg Prod.snd h4
    simp only [ad] at a1 a2
    exact Prod.ext (by simp; omega) (by simp; omega)
   have hz2:z1p l2=(0,0):=by rw [h1,z26,hz1,x24] at hsum; exact hsum
   by_cases hall:∀ u∈l1,Pos u
   ·exact y0d (y1g h2 hall) hz1
   ·have:∃ u∈l1,¬ Pos u:=Classical.byContradiction fun hn=>hall fun u hu=>Classical.byContradiction fun hp=>hn ⟨u,hu,hp⟩
    obtain ⟨u,hu,hup⟩:=this
    have hall2:∀ v∈l2.map ng,Pos v:=by
     intro v hv
     obtain ⟨y,hy,rfl⟩:=List.mem_map.1 hv
     rcases h5 u hu y hy with h|h|h
     ·exact h.2
     ·exact absurd h.1 hup
     ·exact h.2.1
    have:=y1g (by simpa using h3) hall2
    rw [x29,hz2] at this
    exact y0d this rfl
end M06
end
section
namespace Go.Am
open M06
theorem x68 (l:List Pt):std.plain (z0d l)=true:=by
 show List.all _ _=true
 rw [List.all_eq_true]
 intro r hr
 obtain ⟨p,_,rfl⟩:=List.mem_map.1 hr
 rfl
theorem w7a {l:List Pt} (hn:l.length≤100000):G60 std (z0d l,())=some (z0d l,()):=by
 have key:=z3k (b:=w5n std) (fun (i:Nat)=>(z0d (l.take i++List.replicate (l.length - i) (0,0)),z0d l,(l.length:Int),(i:Int),())) (fun i=>i≤l.length) (fun i=>l.length - i) (fun _=>(z0d l,())) (fun i hi=>by
  by_cases hlt:i<l.length
  ·left
   obtain ⟨p,hp⟩:=z0l hlt
   have gp:=z0w hp
   have c1:(i:Int)<(l.length:Int):=by omega
   have c2:(i:Int)≥0:=by omega
   have hw:=z04 (i:=i) (by omega)
   refine ⟨i+1,?_,by omega,by omega,rfl⟩
   have hle:(z0d (l.take i++List.replicate (l.length - i) (0,0))).length=l.length:=by simp [z0d]; omega
   have hset:(l.take i++List.replicate (l.length - i) (0,0)).set i p=l.take (i+1)++List.replicate (l.length - (i+1)) (0,0):=by
    rw [z0q hp,show l.length - i=(l.length - (i+1))+1 by omega,List.replicate_succ,List.append_assoc,List.set_append_right _ _ (by simp; omega)]
    congr 1
    have:i - (l.take i).length=0:=by simp; omega
    rw [this]; rfl
   have hle2:(l.take i++List.replicate (l.length - i) (0,0)).length=l.length:=by simp; omega
   have hle3:(l.take (i+1)++List.replicate (l.length - (i+1)) (0,0)).length=l.length:=by simp; omega
   obtain ⟨r,h4⟩:=z0l (l:=l.take i++List.replicate (l.length - i) (0,0)) (i:=i) (by omega)
   have g3:=z0w h4
   simp only [w5n,z0u,z0v,z0g,z0z,z0y,z1f,z0i,z0c,hle2,hle3,c1,c2,z0b,hw,gp,g3,hset]
  ·right
   have:i=l.length:=by omega
   subst this
   have hn:¬ ((l.length:Int)<(l.length:Int)):=by omega
   simp only [w5n,z0u,z0v,hn,List.take_length,Nat.sub_self,List.replicate_zero,List.append_nil]) 0 (Nat.zero_le _)
 unfold G60
 have e0:z0d (l.take 0++List.replicate (l.length - 0) (0,0))=List.replicate l.length (eP (0,0)):=by simp [z0d]
 rw [e0] at key
 have z:[D.int IntKind.i64 (0:Int),D.int IntKind.i64 (0:Int)]=eP (0,0):=rfl
 have c0:(l.length:Int)≥0:=by omega
 have c1:(l.length:Int)≤(l.length:Int):=by omega
 have c2:(l.length:Int)≤1000000:=by omega
 simp only [g60,it0_eq,z0u,z0v,z0c,z,c0,c1,c2]
 have k0:((0:Nat):Int)=0:=rfl
 rw [k0] at key
 simp only [key,Option.bind_some,List.length_replicate,if_true,z0c,List.drop_zero,Nat.le_refl]
 rw [List.take_of_length_le (by rw [z0c]; exact Nat.le_refl _)]
def rvd (L:List Pt) (n i:Nat):List Pt:=(List.range L.length).map fun j=>if j<n∧(j<i∨n≤j+i) then L.getD (n - 1 - j) (0,0) else L.getD j (0,0)
theorem y2g {L:List Pt} {n i j:Nat} (hj:j<L.length):(rvd L n i)[j]?=some (if j<n∧(j<i∨n≤j+i) then L.getD (n - 1 - j) (0,0) else L.getD j (0,0)):=by
 simp [rvd,hj]
theorem z8g (L:List Pt) (n i:Nat):(rvd L n i).length=L.length:=by simp [rvd]
theorem y8r {α:Type} {a b:List α} (h:a.length=b.length) (k:∀ j,j<a.length→a[j]?=b[j]?):a=b:=by
 apply List.ext_getElem?
 intro j
 by_cases hj:j<a.length
 ·exact k j hj
 ·rw [List.getElem?_eq_none (by omega),List.getElem?_eq_none (by omega)]
theorem w3f (L:List Pt) (n:Nat):rvd L n 0=L:=by
 refine y8r (z8g _ _ _) fun j hj=>?_
 rw [z8g] at hj
 rw [y2g hj,if_neg (by omega)]
 simp [List.getD_eq_getElem?_getD,hj]
theorem w71 {L:List Pt} {n i:Nat} (hn:n≤L.length) (hi:n≤2*i+1):rvd L n i=(L.take n).reverse++L.drop n:=by
 refine y8r (by rw [z8g]; simp; omega) fun j hj=>?_
 rw [z8g] at hj
 rw [y2g hj]
 by_cases h:j<n
 ·rw [List.getElem?_append_left (by simp; omega),List.getElem?_reverse (by simp; omega)]
  have:(List.take n L).length - 1 - j=n - 1 - j:=by simp; omega
  rw [this,List.getElem?_take_of_lt (by omega)]
  by_cases k:j<i∨n≤j+i
  ·rw [if_pos ⟨h,k⟩]
   have:n - 1 - j<L.length:=by omega
   simp [List.getD_eq_getElem?_getD,this]
  ·rw [if_neg (by omega)]
   have:n - 1 - j=j:=by omega
   rw [this]
   simp [List.getD_eq_getElem?_getD,hj]
 ·rw [if_neg (by omega),List.getElem?_append_right (by simp; omega)]
  have:n+(j - (List.take n L).reverse.length)=j:=by simp; omega
  rw [List.getElem?_drop,this]
  simp [List.getD_eq_getElem?_getD,hj]
theorem w3g {L:List Pt} {n i:Nat} (hn:n≤L.length) (hi:2*i+1<n):
  ∃ p q,(rvd L n i)[i]?=some p∧(rvd L n i)[n - 1 - i]?=some q∧((rvd L n i).set i q).set (n - 1 - i) p=rvd L n (i+1):=by
 have h1:=y2g (L:=L) (n:=n) (i:=i) (j:=i) (by omega)
 have h2:=y2g (L:=L) (n:=n) (i:=i) (j:=n - 1 - i) (by omega)
 rw [if_neg (by omega)] at h1 h2
 refine ⟨_,_,h1,h2,?_⟩
 refine y8r (by simp [z8g]) fun j hj=>?_
 simp only [List.length_set,z8g] at hj
 rw [y2g hj]
 by_cases e1:n - 1 - i=j
 ·subst e1
  rw [List.getElem?_set_self (by simp [z8g]; omega),if_pos (by omega)]
  have:n - 1 - (n - 1 - i)=i:=by omega
  rw [this]
 ·rw [List.getElem?_set_ne e1]
  by_cases e2:i=j
  ·subst e2
   rw [List.getElem?_set_self (by simp [z8g]; omega),if_pos (by omega)]
  ·rw [List.getElem?_set_ne e2,y2g hj]
   congr 1
   by_cases k:j<n∧(j<i∨n≤j+i)
   ·rw [if_pos k,if_pos (by omega)]
   ·rw [if_neg k,if_neg (by omega)]
theorem v6e {L:List Pt} {m cap:Nat} (hm:m≤L.length) (hn:L.length≤100000):
  G89 std (z0d L,(0:Nat),m,cap,())=some (z0d ((L.take m).reverse++L.drop m),()):=by
 have key:=z3k (b:=w5l std) (fun (i:Nat)=>(z0d (rvd L m i),(0:Nat),m,cap,(i:Int),(m:Int) - 1 - i,())) (fun i=>i≤m) (fun i=>m - i) (fun _=>(z0d ((L.take m).reverse++L.drop m),())) (fun i hi=>by
  by_cases hlt:2*i+1<m
  ·left
   refine ⟨i+1,?_,by omega,by omega,rfl⟩
   obtain ⟨p,q,h1,h2,h3⟩:=w3g hm hlt
   have ej:(m:Int) - 1 - i=((m - 1 - i:Nat):Int):=by omega
   have c1:(i:Int)<((m - 1 - i:Nat):Int):=by omega
   have c2:((m - 1 - i:Nat):Int)≥0:=by omega
   have c3:((m - 1 - i:Nat):Int)<(m:Int):=by omega
   have c4:(i:Int)≥0:=by omega
   have c5:(i:Int)<(m:Int):=by omega
   have hw:=z04 (i:=i) (by omega)
   have hw2:IntKind.i64.wrap (((m - 1 - i:Nat):Int) - 1)=(m:Int) - 1 - ((i+1:Nat):Int):=by rw [z00]<;>omega
   have g1:=z0w h1
   have g2:=z0w h2
   have h4:∃ r,((rvd L m i).set i q)[m - 1 - i]?=some r:=z0l (by rw [List.length_set,z8g]; omega)
   obtain ⟨r,h4⟩:=h4
   have g3:=z0w h4
   simp only [ej,w5l,z0u,z0v,z0g,z0z,z0y,z1f,z0i,z0c,c1,c2,c3,c4,c5,z0b,z0k,hw,hw2,g1,g2,g3,h3]
  ·right
   have hge:¬ ((i:Int)<(m:Int) - 1 - i):=by omega
   simp only [w5l,z0u,z0v,hge]
   rw [w71 hm (by omega)]) 0 (Nat.zero_le _)
 unfold G89
 have hw:IntKind.i64.wrap ((m:Int) - 1)=(m:Int) - 1 - ((0:Nat):Int):=by rw [z00]<;>omega
 rw [w3f] at key
 simp only [g89,it0_eq,z1k,z0k,hw,z24,z2w]
 have k0:((0:Nat):Int)=0:=rfl
 simp only [k0] at key⊢
 simp only [key,Option.bind_some]
theorem w13 (l:List Pt):z3g l=chn l:=rfl
theorem v0d {q:List Pt} (hs:q.Pairwise Lt) (h2:2≤q.length):2≤(chn q).length∧2≤(chn q.reverse).length:=by
 have main:∀ {q:List Pt},q.Pairwise Lt→2≤q.length→2≤(chn q).length:=by
  intro q hs h2
  match q,h2 with
  |a::b::m,_=>
   obtain ⟨z,hz⟩:∃ z,(a::b::m).getLast?=some z:=⟨_,List.getLast?_eq_some_getLast (by simp)⟩
   have haz:Lt a z:=by
    have h:=hz
    rw [List.getLast?_cons_cons] at h
    exact (List.pairwise_cons.1 hs).1 z (List.mem_of_getLast? h)
   obtain ⟨t,h1,h3,_⟩:=y9i rfl hz hs
   rw [h1]
   match t,h3 with
   |[],h3=>exact absurd (Option.some.inj h3).symm haz.ne
   |x::t,_=>simp
 refine ⟨main hs h2,?_⟩
 have hrz:(q.reverse.map ng).Pairwise Lt:=by
  rw [List.pairwise_map,List.pairwise_reverse]
  exact hs.imp fun h=>(w8h _ _).2 h
 have:=main hrz (by simpa using h2)
 rw [w60] at this
 simpa using this
theorem w7b {l:List Pt} (h1:1≤l.length) (h12:l.length≤12) (hl:∀ x∈l,z1e x):
  ∃ c,G59 std (z0d l,())=some (z0d c,())∧Cyc l c:=by
 obtain ⟨l',hs,hp,ho⟩:=v1i l h12
 have hlen:l'.length=l.length:=hp.length_eq
 obtain ⟨L,m,hg,hL,hm,hu⟩:=v01 (l:=l') ho (by omega)
 generalize hq:L.take m=q at hu
 have hql:q.length=m:=by rw [←hq]; simp; omega
 have hqm:∀ x,x∈q↔x∈l:=fun x=>(hu.2 x).trans hp.mem_iff
 have hqne:q≠[]:=by
  rintro rfl
  match l,h1 with
  |a::l,_=>have:=(hqm a).2 (by simp); simp at this
 have hm1:1≤m:=by rw [←hql]; exact List.length_pos_iff.2 hqne
 have hqs:∀ x∈q,z1e x:=fun x hx=>hl x ((hqm x).1 hx)
 obtain ⟨hc,_⟩:=x5t hqne hu.1 hqm
 refine ⟨w6n q,?_,hc⟩
 have e86:g86 it0 std (z0d l,())=some (z0d L,(0:Nat),m,l.length,()):=by
  have c0:(l.length:Int)≥0:=by omega
  have c1:(l.length:Int)≤(l.length:Int):=by omega
  have c2:(l.length:Int)≤1000000:=by omega
  have z:[D.int IntKind.i64 (0:Int),D.int IntKind.i64 (0:Int)]=eP (0,0):=rfl
  have hg':w9j it0 std (z0d l',(0:Nat),l.length,l.length,())=some (z0d L,(0:Nat),m,l.length,()):=by
   have:=hg
   rw [hlen] at this
   exact this
  have hs':v30 it0 std (z0d l,())=some (z0d l',()):=hs
  have hsp:List.take 0 (List.replicate l.length (eP (0,0)))++z0d l++List.drop (z0d l).length (List.replicate l.length (eP (0,0)))=z0d l:=by
   simp [z0c]
  simp only [g86,z0u,z0v,z0c,z,c0,c1,c2,Nat.le_refl,List.length_replicate]
  simp only [z0c] at hsp
  simp only [hsp,hs',Option.bind_some,hg',z0c,if_true]
 unfold G59
 have ht:(z0d L).take m=z0d q:=by rw [←hq]; simp [z0d]
 have cL:m≤L.length:=by omega
 by_cases hm':m=1
 ·have c1:(m:Int)=1:=by omega
  simp only [g59,e86,z0u,z0v,c1,cL,z0c,List.drop_zero,ht]
  rw [w6n,if_pos (by omega)]
 ·have c1:¬ (m:Int)=1:=by omega
  have g1:=w66 hqs (by omega) (by omega)
  have hqr:∀ x∈q.reverse,z1e x:=fun x hx=>hqs x (by simpa using hx)
  have g2:=w66 hqr (by simp; omega) (by simp; omega)
  rw [w13] at g1 g2
  have hl2:=v0d hu.1 (by omega)
  have g89:=v6e (L:=L) (m:=m) (cap:=l.length) cL (by omega)
  obtain ⟨g1,g1a,g1b⟩:=g1
  obtain ⟨g2,g2a,g2b⟩:=g2
  unfold G88 at g1 g2
  unfold G89 at g89
  have ht2:(z0d ((L.take m).reverse++L.drop m)).take m=z0d q.reverse:=by
   rw [hq]
   have:(z0d (q.reverse++L.drop m))=z0d q.reverse++z0d (L.drop m):=by simp [z0d]
   rw [this,List.take_append_of_le_length (by rw [z0c]; simp; omega),List.take_of_length_le (by rw [z0c]; simp; omega)]
  have cL2:m≤((L.take m).reverse++L.drop m).length:=by simp; omega
  have n1:¬ ((chn q).length - 1+((chn q.reverse).length - 1)≤(chn q).length - 1):=by omega
  have n2:(chn q.reverse).length - 1≤(chn q.reverse).length:=by omega
  have n3:(chn q).length - 1≤(chn q).length:=by omega
  have n4:1≤(chn q.reverse).length - 1:=by omega
  simp only [List.length_reverse] at g2b
  have n5:(chn q).length - 1+((chn q.reverse).length - 1)≤1000000:=by omega
  have hd:∀ c:List Pt,(z0d c).take (c.length - 1)=z0d c.dropLast:=by
   intro c; rw [List.dropLast_eq_take]; simp [z0d]
  have hfin:∀ a b:List Pt,z0d a++z0d b=z0d (a++b):=by intros; simp [z0d]
  have n6:(chn q).length - 1+((chn q.reverse).length - 1)≤((chn q).dropLast++(chn q.reverse).dropLast).length:=by simp
  have htk:(z0d ((chn q).dropLast++(chn q.reverse).dropLast)).take ((chn q).length - 1+((chn q.reverse).length - 1))=z0d ((chn q).dropLast++(chn q.reverse).dropLast):=by
   rw [List.take_of_length_le (by rw [z0c]; simp)]
  simp only [g59,e86,z0u,z0v,c1,cL,z0c,List.drop_zero,ht,g1,x68,g89,ht2,cL2,g2,n1,n2,n3,n4,n5,hd,hfin,n6,htk]
  rw [w6n,if_neg (by omega)]
end Go.Am
end
noncomputable section
namespace Go.Am
def v4q:Ctr:=
 ⟨80,[.list 2, .list 2],[],[(.ret,⟨[(0, .list 2)],[],1⟩)]⟩
def la80:List LA:=
 [⟨80,[false,true,false,true,true],0,⟨⟨[(0, .list 2),(1, .list 2),(5, .bptr 0 0),(15, .full 1 1),(16, .int .i64),(17, .int .i64)],[.box [.vec 2 2], .row [(CK.list 2)], .row [ci,ci]],82⟩,[((AX.exit 0),⟨[(0, .list 2),(1, .list 2),(5, .bptr 0 0)],[.box [.vec 1 2], .row [ci,ci]],82⟩)]⟩⟩,
 ⟨94,[false,true],5,⟨⟨[(0, .yld 4),(1, .bptr 3 0),(6, .list 2),(7, .int .i64),(8, .int .i64)],[.box [.vec 5 2], .row [(CK.list 2)], .dead, .box [.list 2], .loop Go.LoopState.ready Option.none 80 [Bool.false,Bool.true,Bool.true,Bool.false,Bool.false,Bool.true,Bool.true,Bool.false,Bool.false,Bool.true,Bool.false,Bool.true,Bool.true] 82 [(22, .clo 94 [] [.bptr 3 0]),(16, .int .i64),(15, .full 1 1),(5, .bptr 0 0),(1, .list 2),(0, .list 2),(17, .int .i64)], .row [ci,ci]],33⟩,[(AX.ret,⟨[],[.box [.vec 5 2], .row [(CK.list 2)], .dead, .box [.list 2], .loop Go.LoopState.ready Option.none 80 [Bool.false,Bool.true,Bool.true,Bool.false,Bool.false,Bool.true,Bool.true,Bool.false,Bool.false,Bool.true,Bool.false,Bool.true,Bool.true] 82 [(22, .clo 94 [] [.bptr 3 0]),(16, .int .i64),(15, .full 1 1),(5, .bptr 0 0),(1, .list 2),(0, .list 2),(17, .int .i64)], .row [ci,ci]],33⟩),((AX.exit 0),⟨[],[.box [.vec 5 2], .row [(CK.list 2)], .dead, .box [.list 2], .loop Go.LoopState.ready Option.none 80 [Bool.false,Bool.true,Bool.true,Bool.false,Bool.false,Bool.true,Bool.true,Bool.false,Bool.false,Bool.true,Bool.false,Bool.true,Bool.true] 82 [(22, .clo 94 [] [.bptr 3 0]),(16, .int .i64),(15, .full 1 1),(5, .bptr 0 0),(1, .list 2),(0, .list 2),(17, .int .i64)], .row [ci,ci]],33⟩)]⟩⟩,
 ⟨80,[false,true,false,true,true,true,true,true,true],0,⟨⟨[(5, .bptr 0 0),(9, .bptr 1 0),(10, .sl 2 2),(42, .vec 3 2),(43, .int .i64),(44, .int .i64)],[.box [.vec 3 2], .box [.int .i64, .int .i64], .row [ci,ci], .row [ci,ci]],82⟩,[((AX.exit 4),⟨[(10, .sl 0 2)],[.row [ci,ci]],82⟩)]⟩⟩]
def ja80:List JA:=
 [⟨80,[true,true,false,false,true,true,false,false,true,false,true,true],0,[(AX.normal,⟨[(0, .list 2),(1, .list 2),(5, .bptr 0 0),(15, .full 1 1),(16, .int .i64),(17, .int .i64)],[.box [.vec 2 2], .row [(CK.list 2)], .row [ci,ci]],82⟩)]⟩,
 ⟨80,[false,true,true,false,false,true,false,true,true,true,true,true,true],0,[(AX.normal,⟨[(5, .bptr 0 0),(9, .bptr 1 0),(10, .sl 2 2),(42, .vec 3 2),(43, .int .i64),(44, .int .i64)],[.box [.vec 3 2], .box [.int .i64, .int .i64], .row [ci,ci], .row [ci,ci]],82⟩)]⟩,
 ⟨80,[true,false,true,true,true,true,true,true,true],0,[(AX.normal,⟨[(10, .sl 0 2)],[.row [ci,ci]],82⟩)]⟩]
def v9b:List CF:=
 [⟨w9y,G98⟩,⟨v4i,G99⟩,⟨x6f,u2l⟩]
def an80:Anns:=
 ⟨v9b,ja80,[]⟩
def x2l (it:It) (p:Prim):(LD×(LD×T32))→Option ((LD×(LD×T32))⊕(LD×T17)):=
 fun a=>opt.run _ (
 opt.ask _ (p.cmp .lss a.2.2.2.2.2.2.2.1 a.2.2.2.2.2.2.1) (
 opt.bnd ((LD×(LD×T32))) _ (
 opt.run ((LD×(LD×T32))) (
 opt.need _ (bif (p.cmp .geq a.2.2.2.2.2.2.2.1 (0:Int)) then (p.cmp .lss a.2.2.2.2.2.2.2.1 (p.ofNat (p.len a.2.1))) else Bool.false)<|
 opt.need _ (p.rowOk a.2.1 (p.add 0 (p.nat a.2.2.2.2.2.2.2.1)) [ci,ci])<|
 opt.need _ (p.and (p.leN (p.add 0 2) (p.len [[(D.int .i64 a.2.2.1),(D.int .i64 a.2.2.2.1)],[(D.int .i64 (p.rdI a.2.1 (p.add 0 (p.nat a.2.2.2.2.2.2.2.1)) 0)),(D.int .i64 (p.rdI a.2.1 (p.add 0 (p.nat a.2.2.2.2.2.2.2.1)) 1))]])) Bool.true)<|
 opt.bnd T4 _ (g99 it p ((p.cut [[(D.int .i64 a.2.2.1),(D.int .i64 a.2.2.2.1)],[(D.int .i64 (p.rdI a.2.1 (p.add 0 (p.nat a.2.2.2.2.2.2.2.1)) 0)),(D.int .i64 (p.rdI a.2.1 (p.add 0 (p.nat a.2.2.2.2.2.2.2.1)) 1))]] 0 2),())) fun b=>
 opt.ask _ (p.cmp .lss (p.ar .add .i64 a.2.2.2.2.2.2.2.1 (1:Int)) (p.ofNat (p.len a.2.1))) (
 opt.need _ (bif (p.cmp .geq (p.ar .add .i64 a.2.2.2.2.2.2.2.1 (1:Int)) (0:Int)) then (p.cmp .lss (p.ar .add .i64 a.2.2.2.2.2.2.2.1 (1:Int)) (p.ofNat (p.len a.2.1))) else Bool.false)<|
 opt.need _ (p.rowOk a.2.1 (p.add 0 (p.nat (p.ar .add .i64 a.2.2.2.2.2.2.2.1 (1:Int)))) [ci,ci])<|
 opt.bnd T0 _ (G98 p ((p.rdI a.2.1 (p.add 0 (p.nat a.2.2.2.2.2.2.2.1)) 0),((p.rdI a.2.1 (p.add 0 (p.nat a.2.2.2.2.2.2.2.1)) 1),((p.rdI a.2.1 (p.add 0 (p.nat (p.ar .add .i64 a.2.2.2.2.2.2.2.1 (1:Int)))) 0),((p.rdI a.2.1 (p.add 0 (p.nat (p.ar .add .i64 a.2.2.2.2.2.2.2.1 (1:Int)))) 1),()))))) fun c=>
 opt.ask _ (p.cmp .eql c.1 (0:Int)) (
 opt.need _ (p.eqN 0 0)<|
 opt.need _ (p.eqN (p.len a.2.1) (p.len a.2.1))<|
 opt.need _ (p.eqN 0 0)<|
 opt.need _ (p.eqN (p.len a.2.1) (p.len a.2.1))<|
 opt.ret _ (a.1,(a.2.1,(b.1,(b.2.1,(a.2.2.2.2.1,(a.2.2.2.2.2.1,(a.2.2.2.2.2.2.1,(a.2.2.2.2.2.2.2.1,()))))))))) (
 opt.need _ (p.and (p.leN (p.add 0 1) (p.len [[(D.int .i64 b.1),(D.int .i64 b.2.1)]])) (p.and (p.leN (p.add a.2.2.2.2.1 a.2.2.2.2.2.1) (p.len a.1)) (p.and (p.leN 1 1) (p.leN (p.add a.2.2.2.2.2.1 1) 1000000))))<|
 opt.need _ (p.eqN 0 0)<|
 opt.need _ (p.eqN (p.len a.2.1) (p.len a.2.1))<|
 opt.need _ (p.eqN 0 0)<|
 opt.need _ (p.eqN (p.len a.2.1) (p.len a.2.1))<|
 opt.ret _ ((p.app (p.cut a.1 a.2.2.2.2.1 a.2.2.2.2.2.1) (p.cut [[(D.int .i64 b.1),(D.int .i64 b.2.1)]] 0 1)),(a.2.1,(b.1,(b.2.1,(0,((p.add a.2.2.2.2.2.1 1),(a.2.2.2.2.2.2.1,(a.2.2.2.2.2.2.2.1,())))))))))) (
 opt.need _ (p.and (p.leN (p.add 0 1) (p.len [[(D.int .i64 b.1),(D.int .i64 b.2.1)]])) (p.and (p.leN (p.add a.2.2.2.2.1 a.2.2.2.2.2.1) (p.len a.1)) (p.and (p.leN 1 1) (p.leN (p.add a.2.2.2.2.2.1 1) 1000000))))<|
 opt.need _ (p.eqN 0 0)<|
 opt.need _ (p.eqN (p.len a.2.1) (p.len a.2.1))<|
 opt.need _ (p.eqN 0 0)<|
 opt.need _ (p.eqN (p.len a.2.1) (p.len a.2.1))<|
 opt.ret _ ((p.app (p.cut a.1 a.2.2.2.2.1 a.2.2.2.2.2.1) (p.cut [[(D.int .i64 b.1),(D.int .i64 b.2.1)]] 0 1)),(a.2.1,(b.1,(b.2.1,(0,((p.add a.2.2.2.2.2.1 1),(a.2.2.2.2.2.2.1,(a.2.2.2.2.2.2.2.1,()))))))))))) fun d=>
 opt.need _ (p.eqN 0 0)<|
 opt.need _ (p.eqN (p.len d.2.1) (p.len d.2.1))<|
 opt.need _ (p.eqN 0 0)<|
 opt.need _ (p.eqN (p.len d.2.1) (p.len d.2.1))<|
 opt.ret _ (Sum.inl (d.1,(d.2.1,(d.2.2.1,(d.2.2.2.1,(d.2.2.2.2.1,(d.2.2.2.2.2.1,(d.2.2.2.2.2.2.1,((p.ar .add .i64 d.2.2.2.2.2.2.2.1 (1:Int)),())))))))))) (
 opt.ret _ (Sum.inr (a.1,(a.2.2.2.2.1,(a.2.2.2.2.2.1,()))))))
def y9r (p:Prim):(LD×(LD×(LD×T61)))→Option ((LD×(LD×(LD×T61)))⊕((LD×(LD×(LD×T23)))⊕(LD×(LD×(LD×T23))))):=
 fun a=>opt.run _ (
 opt.ask _ (p.cmp .lss a.2.2.2.2.2.2.2.2.2.1 a.2.2.2.2.2.2.2.2.1) (
 opt.need _ (p.rowOk a.2.2.2.2.2.2.2.1 (p.nat a.2.2.2.2.2.2.2.2.2.1) [ci,ci])<|
 opt.need _ (p.cmp .geq a.2.2.2.2.2.2.2.2.2.1 (0:Int))<|
 opt.need _ (p.cmp .neq (p.ofNat (p.len a.2.2.1)) (0:Int))<|
 opt.need _ (p.rowOk a.2.2.1 (p.nat (p.ar .rem .i64 (p.ar .add .i64 a.2.2.2.2.2.2.2.2.2.1 (1:Int)) (p.ofNat (p.len a.2.2.1)))) [ci,ci])<|
 opt.need _ (p.cmp .geq (p.ar .rem .i64 (p.ar .add .i64 a.2.2.2.2.2.2.2.2.2.1 (1:Int)) (p.ofNat (p.len a.2.2.1))) (0:Int))<|
 opt.ask _ (bif (p.cmp .eql (p.ar .sub .i64 (p.rdI a.2.2.1 (p.nat (p.ar .rem .i64 (p.ar .add .i64 a.2.2.2.2.2.2.2.2.2.1 (1:Int)) (p.ofNat (p.len a.2.2.1)))) 0) (p.rdI a.2.2.2.2.2.2.2.1 (p.nat a.2.2.2.2.2.2.2.2.2.1) 0)) (0:Int)) then (bif (p.cmp .eql (p.ar .sub .i64 (p.rdI a.2.2.1 (p.nat (p.ar .rem .i64 (p.ar .add .i64 a.2.2.2.2.2.2.2.2.2.1 (1:Int)) (p.ofNat (p.len a.2.2.1)))) 1) (p.rdI a.2.2.2.2.2.2.2.1 (p.nat a.2.2.2.2.2.2.2.2.2.1) 1)) (0:Int)) then Bool.true else Bool.false) else Bool.false) (
 opt.need _ (p.eqN 0 0)<|
 opt.need _ (p.eqN (p.len a.2.1) (p.len a.2.1))<|
 opt.need _ (p.eqN 0 0)<|
 opt.need _ (p.eqN (p.len a.1) (p.len a.1))<|
 opt.need _ (p.eqN (p.len a.1) (p.len a.1))<|
 opt.ret _ (Sum.inr (Sum.inl (a.1,(a.2.1,(a.2.2.1,(a.2.2.2.1,(a.2.2.2.2.1,(a.2.2.2.2.2.1,(a.2.2.2.2.2.2.1,())))))))))) (
 opt.need _ (p.and (p.leN (p.add 0 1) (p.len [[(D.int .i64 (p.ar .sub .i64 (p.rdI a.2.2.1 (p.nat (p.ar .rem .i64 (p.ar .add .i64 a.2.2.2.2.2.2.2.2.2.1 (1:Int)) (p.ofNat (p.len a.2.2.1)))) 0) (p.rdI a.2.2.2.2.2.2.2.1 (p.nat a.2.2.2.2.2.2.2.2.2.1) 0))),(D.int .i64 (p.ar .sub .i64 (p.rdI a.2.2.1 (p.nat (p.ar .rem .i64 (p.ar .add .i64 a.2.2.2.2.2.2.2.2.2.1 (1:Int)) (p.ofNat (p.len a.2.2.1)))) 1) (p.rdI a.2.2.2.2.2.2.2.1 (p.nat a.2.2.2.2.2.2.2.2.2.1) 1)))]])) (p.and (p.leN (p.add 0 (p.len a.2.1)) (p.len a.2.1)) (p.and (p.leN 1 1) (p.leN (p.add (p.len a.2.1) 1) 1000000))))<|
 opt.need _ (p.eqN 0 0)<|
 opt.need _ (p.eqN (p.add (p.len a.2.1) 1) (p.len (p.app (p.cut a.2.1 0 (p.len a.2.1)) (p.cut [[(D.int .i64 (p.ar .sub .i64 (p.rdI a.2.2.1 (p.nat (p.ar .rem .i64 (p.ar .add .i64 a.2.2.2.2.2.2.2.2.2.1 (1:Int)) (p.ofNat (p.len a.2.2.1)))) 0) (p.rdI a.2.2.2.2.2.2.2.1 (p.nat a.2.2.2.2.2.2.2.2.2.1) 0))),(D.int .i64 (p.ar .sub .i64 (p.rdI a.2.2.1 (p.nat (p.ar .rem .i64 (p.ar .add .i64 a.2.2.2.2.2.2.2.2.2.1 (1:Int)) (p.ofNat (p.len a.2.2.1)))) 1) (p.rdI a.2.2.2.2.2.2.2.1 (p.nat a.2.2.2.2.2.2.2.2.2.1) 1)))]] 0 1))))<|
 opt.need _ (p.eqN 0 0)<|
 opt.need _ (p.eqN (p.len a.1) (p.len a.1))<|
 opt.need _ (p.eqN (p.len a.1) (p.len a.1))<|
 opt.ret _ (Sum.inl (a.1,((p.app (p.cut a.2.1 0 (p.len a.2.1)) (p.cut [[(D.int .i64 (p.ar .sub .i64 (p.rdI a.2.2.1 (p.nat (p.ar .rem .i64 (p.ar .add .i64 a.2.2.2.2.2.2.2.2.2.1 (1:Int)) (p.ofNat (p.len a.2.2.1)))) 0) (p.rdI a.2.2.2.2.2.2.2.1 (p.nat a.2.2.2.2.2.2.2.2.2.1) 0))),(D.int .i64 (p.ar .sub .i64 (p.rdI a.2.2.1 (p.nat (p.ar .rem .i64 (p.ar .add .i64 a.2.2.2.2.2.2.2.2.2.1 (1:Int)) (p.ofNat (p.len a.2.2.1)))) 1) (p.rdI a.2.2.2.2.2.2.2.1 (p.nat a.2.2.2.2.2.2.2.2.2.1) 1)))]] 0 1)),(a.2.2.1,(a.2.2.2.1,(a.2.2.2.2.1,(a.2.2.2.2.2.1,(a.2.2.2.2.2.2.1,(a.2.2.2.2.2.2.2.1,(a.2.2.2.2.2.2.2.2.1,((p.ar .add .i64 a.2.2.2.2.2.2.2.2.2.1 (1:Int)),()))))))))))))) (
 opt.need _ (p.eqN 0 0)<|
 opt.need _ (p.eqN (p.len a.2.1) (p.len a.2.1))<|
 opt.need _ (p.eqN 0 0)<|
 opt.need _ (p.eqN (p.len a.1) (p.len a.1))<|
 opt.need _ (p.eqN (p.len a.1) (p.len a.1))<|
 opt.ret _ (Sum.inr (Sum.inr (a.1,(a.2.1,(a.2.2.1,(a.2.2.2.1,(a.2.2.2.2.1,(a.2.2.2.2.2.1,(a.2.2.2.2.2.2.1,())))))))))))
def y3o (it:It) (p:Prim):(LD×(LD×(LD×(LD×T3))))→Option ((LD×(LD×(LD×(LD×T3))))⊕(LD×(LD×(LD×Unit)))):=
 fun a=>opt.run _ (
 opt.ask _ (p.cmp .lss a.2.2.2.2.2.1 a.2.2.2.2.1) (
 opt.need _ (bif (p.cmp .geq a.2.2.2.2.2.1 (0:Int)) then (p.cmp .lss a.2.2.2.2.2.1 (p.ofNat (p.len a.1))) else Bool.false)<|
 opt.need _ (p.rowOk a.1 (p.add 0 (p.nat a.2.2.2.2.2.1)) [(CK.list 2)])<|
 opt.bnd ((LD×(LD×(LD×(LD×T3))))) _ (
 opt.run ((LD×(LD×(LD×(LD×T3))))) (
 opt.need _ (p.eqN 0 0)<|
 opt.need _ (p.eqN (p.len a.2.1) (p.len a.2.1))<|
 opt.need _ (p.eqN 0 0)<|
 opt.need _ (p.eqN (p.len a.1) (p.len a.1))<|
 opt.need _ (p.eqN (p.len a.1) (p.len a.1))<|
 opt.alt ((LD×(LD×(LD×T23)))) ((LD×(LD×(LD×T23)))) _ (
 it _ _ (y9r p) (a.1,(a.2.1,((p.rdL a.1 (p.add 0 (p.nat a.2.2.2.2.2.1)) 0),(a.2.2.2.2.1,(a.2.2.2.1,(a.2.2.1,(a.2.2.2.2.2.1,((p.rdL a.1 (p.add 0 (p.nat a.2.2.2.2.2.1)) 0),((p.ofNat (p.len (p.rdL a.1 (p.add 0 (p.nat a.2.2.2.2.2.1)) 0))),((0:Int),()))))))))))) (fun b=>
 opt.need _ (p.eqN 0 0)<|
 opt.need _ (p.eqN (p.len b.2.1) (p.len b.2.1))<|
 opt.need _ (p.eqN 0 0)<|
 opt.need _ (p.eqN (p.len a.1) (p.len b.1))<|
 opt.need _ (p.eqN (p.len a.1) (p.len b.1))<|
 opt.ret _ (b.1,(b.2.1,(a.2.2.1,(a.2.2.2.1,(a.2.2.2.2.1,(a.2.2.2.2.2.1,()))))))) (fun c=>
 opt.bnd ((LD×(LD×(LD×T23)))) _ (some c) fun d=>
 opt.need _ (p.eqN 0 0)<|
 opt.need _ (p.eqN (p.len d.2.1) (p.len d.2.1))<|
 opt.need _ (p.eqN 0 0)<|
 opt.need _ (p.eqN (p.len a.1) (p.len d.1))<|
 opt.need _ (p.eqN (p.len a.1) (p.len d.1))<|
 opt.ret _ (d.1,(d.2.1,(a.2.2.1,(a.2.2.2.1,(a.2.2.2.2.1,(a.2.2.2.2.2.1,()))))))))) fun e=>
 opt.need _ (p.eqN 0 0)<|
 opt.need _ (p.eqN (p.len e.2.1) (p.len e.2.1))<|
 opt.need _ (p.eqN 0 0)<|
 opt.need _ (p.eqN (p.len e.1) (p.len e.1))<|
 opt.need _ (p.eqN (p.len e.1) (p.len e.1))<|
 opt.ret _ (Sum.inl (e.1,(e.2.1,(e.2.2.1,(e.2.2.2.1,(e.2.2.2.2.1,((p.ar .add .i64 e.2.2.2.2.2.1 (1:Int)),())))))))) (
 opt.need _ (p.eqN 0 0)<|
 opt.need _ (p.eqN (p.len a.2.1) (p.len a.2.1))<|
 opt.ret _ (Sum.inr (a.2.1,(a.2.2.1,(a.2.2.2.1,()))))))
def g80 (it:It):(p:Prim)→(LD×(LD×Unit))→Option ((LD×Unit)):=
 fun p x=>
 opt.need _ (p.eqN 0 0)<|
 opt.need _ (p.eqN 2 (p.len [[(D.list Bool.false 2 x.1)],[(D.list Bool.false 2 x.2.1)]]))<|
 opt.need _ (p.eqN 2 (p.len [[(D.list Bool.false 2 x.1)],[(D.list Bool.false 2 x.2.1)]]))<|
 opt.bnd ((LD×(LD×(LD×Unit)))) _ (
 it _ _ (y3o it p) ([[(D.list Bool.false 2 x.1)],[(D.list Bool.false 2 x.2.1)]],([],(x.1,(x.2.1,((p.ofNat 2),((0:Int),()))))))) fun a=>
 opt.need _ (p.eqN 0 0)<|
 opt.need _ (p.eqN (p.len a.1) (p.len a.1))<|
 opt.bnd ((LD×Unit)) _ (v3z it p (a.1,())) fun b=>
 opt.need _ (p.rowOk a.2.1 (p.nat (0:Int)) [ci,ci])<|
 opt.need _ (p.rowOk a.2.2.1 (p.nat (0:Int)) [ci,ci])<|
 opt.need _ (p.and (p.leN (p.add 0 2) (p.len [[(D.int .i64 (p.rdI a.2.1 (p.nat (0:Int)) 0)),(D.int .i64 (p.rdI a.2.1 (p.nat (0:Int)) 1))],[(D.int .i64 (p.rdI a.2.2.1 (p.nat (0:Int)) 0)),(D.int .i64 (p.rdI a.2.2.1 (p.nat (0:Int)) 1))]])) Bool.true)<|
 opt.bnd T4 _ (g99 it p ((p.cut [[(D.int .i64 (p.rdI a.2.1 (p.nat (0:Int)) 0)),(D.int .i64 (p.rdI a.2.1 (p.nat (0:Int)) 1))],[(D.int .i64 (p.rdI a.2.2.1 (p.nat (0:Int)) 0)),(D.int .i64 (p.rdI a.2.2.1 (p.nat (0:Int)) 1))]] 0 2),())) fun c=>
 opt.need _ (p.eqN 0 0)<|
 opt.need _ (p.eqN (p.len a.1) (p.len b.1))<|
 opt.need _ (p.leN (p.add 0 1) (p.len [[(D.int .i64 c.1),(D.int .i64 c.2.1)]]))<|
 opt.need _ (p.eqN 0 0)<|
 opt.need _ (p.eqN (p.len a.1) (p.len b.1))<|
 opt.bnd ((LD×T17)) _ (
 it _ _ (x2l it p) ([[(D.int .i64 c.1),(D.int .i64 c.2.1)]],(b.1,(c.1,(c.2.1,(0,(1,((p.ofNat (p.len a.1)),((0:Int),()))))))))) fun d=>
 opt.bnd ((LD×T17)) _ (
 opt.run ((LD×T17)) (
 opt.ask _ (p.cmp .gtr (p.ofNat d.2.2.1) (1:Int)) (
 opt.need _ (p.and (p.cmp .geq (0:Int) (0:Int)) (p.and (p.cmp .leq (0:Int) (p.ar .sub .i64 (p.ofNat d.2.2.1) (1:Int))) (p.cmp .leq (p.ar .sub .i64 (p.ofNat d.2.2.1) (1:Int)) (p.ofNat d.2.2.1))))<|
 opt.ret _ (d.1,((p.add d.2.1 (p.nat (0:Int))),((p.sub (p.nat (p.ar .sub .i64 (p.ofNat d.2.2.1) (1:Int))) (p.nat (0:Int))),())))) (
 opt.ret _ (d.1,(d.2.1,(d.2.2.1,())))))) fun e=>
 opt.need _ (p.leN (p.add e.2.1 e.2.2.1) (p.len e.1))<|
 opt.ret _ ((p.cut e.1 e.2.1 e.2.2.1),())
def G80:=g80 it0
theorem ok80:CtrOk PG v4q (G80 std):=okF (a:=an80) (l:=la80) (gC v7o (gC ok99 (gC v7p (gN)))) (by kernel_rfl) fun _ _=>by kernel_rfl
end Go.Am
end
noncomputable section
namespace Go.Am
def x75:Ctr:=
 ⟨48,[.agg [.list 2, .list 1]],[],[(.ret,⟨[(0, .tuple [.nilp, .int .i64])],[],1⟩),(.ret,⟨[(0, .tuple [.bptr 0 0, .int .i64])],[.box [.list 2, .list 1, .list 2]],1⟩)]⟩
def la48:List LA:=
 [⟨48,[false,true,false,true,true,true],0,⟨⟨[(5, .bptr 0 0),(24, .list 1),(25, .int .i64),(26, .int .i64)],[.box [.list 2, .list 1, .list 2]],43⟩,[((AX.exit 0),⟨[(5, .bptr 0 0)],[.box [.list 2, .list 1, .list 2]],43⟩)]⟩⟩]
def ja48:List JA:=
 []
def v9w:List CF:=
 [⟨v4q,G80⟩,⟨w94,G59⟩,⟨w93,G60⟩,⟨v5e,G18⟩]
def an48:Anns:=
 ⟨v9w,ja48,[]⟩
def x4k (it:It) (p:Prim):(LD×(LD×(LD×(LD×T3))))→Option ((LD×(LD×(LD×(LD×T3))))⊕(LD×(LD×(LD×Unit)))):=
 fun a=>opt.run _ (
 opt.ask _ (p.cmp .lss a.2.2.2.2.2.1 a.2.2.2.2.1) (
 opt.need _ (p.rowOk a.2.2.2.1 (p.nat a.2.2.2.2.2.1) [(CK.list 2)])<|
 opt.need _ (p.cmp .geq a.2.2.2.2.2.1 (0:Int))<|
 opt.bnd ((LD×Unit)) _ (g60 it p ((p.rdL a.2.2.2.1 (p.nat a.2.2.2.2.2.1) 0),())) fun b=>
 opt.bnd ((LD×Unit)) _ (g59 it p (b.1,())) fun c=>
 opt.bnd ((LD×Unit)) _ (g80 it p (a.2.2.1,(c.1,()))) fun d=>
 opt.ret _ (Sum.inl (a.1,(a.2.1,(d.1,(a.2.2.2.1,(a.2.2.2.2.1,((p.ar .add .i64 a.2.2.2.2.2.1 (1:Int)),())))))))) (
 opt.ret _ (Sum.inr (a.1,(a.2.1,(a.2.2.1,()))))))
def g48 (it:It):(p:Prim)→(LD×(LD×Unit))→Option (((Int×Unit)⊕(LD×(LD×(LD×(Int×Unit)))))):=
 fun p x=>
 opt.bnd T0 _ (g18 it p (x.1,(x.2.1,()))) fun a=>
 opt.ask _ (p.cmp .neq a.1 (0:Int)) (
 opt.ret _ (Sum.inl (a.1,()))) (
 opt.bnd ((LD×Unit)) _ (g60 it p (x.1,())) fun b=>
 opt.bnd ((LD×Unit)) _ (g59 it p (b.1,())) fun c=>
 opt.bnd ((LD×(LD×(LD×Unit)))) _ (
 it _ _ (x4k it p) (x.1,(x.2.1,(c.1,(x.2.1,((p.ofNat (p.len x.2.1)),((0:Int),()))))))) fun d=>
 opt.ret _ (Sum.inr (d.1,(d.2.1,(d.2.2.1,((0:Int),()))))))
def G48:=g48 it0
theorem v1p:CtrOk PG x75 (G48 std):=okF (a:=an48) (l:=la48) (gC ok80 (gC u1m (gC u1l (gC ok18 (gN))))) (by kernel_rfl) fun _ _=>by kernel_rfl
def v5f:Ctr:=
 ⟨16,[.agg [.list 2, .list 1]],[],[(.ret,⟨[(0, .tuple [.vec 0 2, .int .i64])],[.row [ci,ci]],1⟩)]⟩
def la16:List LA:=
 [⟨16,[false,true,false,true,true,true,true],0,⟨⟨[(6, .vec 0 2),(20, .list 2),(21, .int .i64),(22, .int .i64)],[.row [ci,ci]],36⟩,[((AX.exit 0),⟨[(6, .vec 0 2)],[.row [ci,ci]],36⟩)]⟩⟩]
def ja16:List JA:=
 []
def u0e:List CF:=
 [⟨x75,G48⟩]
def an16:Anns:=
 ⟨u0e,ja16,[]⟩
def u0u (p:Prim):(LD×(LD×T3))→Option ((LD×(LD×T3))⊕(LD×Unit)):=
 fun a=>opt.run _ (
 opt.ask _ (p.cmp .lss a.2.2.2.1 a.2.2.1) (
 opt.need _ (p.rowOk a.2.1 (p.nat a.2.2.2.1) [ci,ci])<|
 opt.need _ (p.cmp .geq a.2.2.2.1 (0:Int))<|
 opt.need _ (p.and (p.leN (p.add 0 1) (p.len [[(D.int .i64 (p.rdI a.2.1 (p.nat a.2.2.2.1) 0)),(D.int .i64 (p.rdI a.2.1 (p.nat a.2.2.2.1) 1))]])) (p.and (p.leN (p.add 0 (p.len a.1)) (p.len a.1)) (p.and (p.leN 1 1) (p.leN (p.add (p.len a.1) 1) 1000000))))<|
 opt.need _ (p.eqN 0 0)<|
 opt.need _ (p.eqN (p.add (p.len a.1) 1) (p.len (p.app (p.cut a.1 0 (p.len a.1)) (p.cut [[(D.int .i64 (p.rdI a.2.1 (p.nat a.2.2.2.1) 0)),(D.int .i64 (p.rdI a.2.1 (p.nat a.2.2.2.1) 1))]] 0 1))))<|
 opt.ret _ (Sum.inl ((p.app (p.cut a.1 0 (p.len a.1)) (p.cut [[(D.int .i64 (p.rdI a.2.1 (p.nat a.2.2.2.1) 0)),(D.int .i64 (p.rdI a.2.1 (p.nat a.2.2.2.1) 1))]] 0 1)),(a.2.1,(a.2.2.1,((p.ar .add .i64 a.2.2.2.1 (1:Int)),())))))) (
 opt.need _ (p.eqN 0 0)<|
 opt.need _ (p.eqN (p.len a.1) (p.len a.1))<|
 opt.ret _ (Sum.inr (a.1,()))))
def g16 (it:It):(p:Prim)→(LD×(LD×Unit))→Option ((LD×T1)):=
 fun p x=>
 opt.alt T0 ((LD×(LD×(LD×T1)))) _ (g48 it p (x.1,(x.2.1,()))) (fun a=>
 opt.ask _ (p.cmp .neq a.1 (0:Int)) (
 opt.ret _ ([],(a.1,()))) (
 opt.no _ 41)) (fun b=>
 opt.bnd ((LD×(LD×(LD×T1)))) _ (some b) fun c=>
 opt.ask _ (p.cmp .neq c.2.2.2.1 (0:Int)) (
 opt.ret _ ([],(c.2.2.2.1,()))) (
 opt.bnd ((LD×Unit)) _ (
 it _ _ (u0u p) ([],(c.2.2.1,((p.ofNat (p.len c.2.2.1)),((0:Int),()))))) fun d=>
 opt.need _ (p.eqN 0 0)<|
 opt.need _ (p.eqN (p.len d.1) (p.len d.1))<|
 opt.ret _ (d.1,((0:Int),()))))
def G16:=g16 it0
theorem ok16:CtrOk PG v5f (G16 std):=okF (a:=an16) (l:=la16) (gC v1p (gN)) (by kernel_rfl) fun _ _=>by kernel_rfl
def w1j:Ctr:=
 ⟨62,[.agg [.list 2, .list 1], .agg [.list 2, .list 1]],[],[(.ret,⟨[(0, .tuple [.nilp, .nilp, .int .i64])],[],1⟩),(.ret,⟨[(0, .tuple [.nilp, .bptr 0 0, .int .i64])],[.box [.list 2, .list 1, .list 2]],1⟩),(.ret,⟨[(0, .tuple [.bptr 0 0, .nilp, .int .i64])],[.box [.list 2, .list 1, .list 2]],1⟩),(.ret,⟨[(0, .tuple [.bptr 0 0, .bptr 1 0, .int .i64])],[.box [.list 2, .list 1, .list 2], .box [.list 2, .list 1, .list 2]],1⟩)]⟩
def la62:List LA:=
 []
def ja62:List JA:=
 []
def v9m:List CF:=
 [⟨x75,G48⟩]
def an62:Anns:=
 ⟨v9m,ja62,[]⟩
def g62 (it:It):(p:Prim)→(LD×(LD×(LD×(LD×Unit))))→Option (((Int×Unit)⊕((LD×(LD×(LD×(Int×Unit))))⊕((LD×(LD×(LD×(Int×Unit))))⊕(LD×(LD×(LD×(LD×(LD×(LD×(Int×Unit))))))))))):=
 fun p x=>
 opt.alt T0 ((LD×(LD×(LD×T1)))) _ (g48 it p (x.1,(x.2.1,()))) (fun a=>
 opt.ask _ (p.cmp .neq a.1 (0:Int)) (
 opt.ret _ (Sum.inl (a.1,()))) (
 opt.alt T0 ((LD×(LD×(LD×T1)))) _ (g48 it p (x.2.2.1,(x.2.2.2.1,()))) (fun b=>
 opt.ret _ (Sum.inl (b.1,()))) (fun c=>
 opt.bnd ((LD×(LD×(LD×T1)))) _ (some c) fun d=>
 opt.ret _ (Sum.inr (Sum.inl (d.1,(d.2.1,(d.2.2.1,(d.2.2.2.1,()))))))))) (fun e=>
 opt.bnd ((LD×(LD×(LD×T1)))) _ (some e) fun f=>
 opt.ask _ (p.cmp .neq f.2.2.2.1 (0:Int)) (
 opt.ret _ (Sum.inl (f.2.2.2.1,()))) (
 opt.alt T0 ((LD×(LD×(LD×T1)))) _ (g48 it p (x.2.2.1,(x.2.2.2.1,()))) (fun g=>
 opt.ret _ (Sum.inr (Sum.inr (Sum.inl (f.1,(f.2.1,(f.2.2.1,(g.1,())))))))) (fun h=>
 opt.bnd ((LD×(LD×(LD×T1)))) _ (some h) fun i=>
 opt.ret _ (Sum.inr (Sum.inr (Sum.inr (f.1,(f.2.1,(f.2.2.1,(i.1,(i.2.1,(i.2.2.1,(i.2.2.2.1,())))))))))))))
def G62:=g62 it0
theorem v69:CtrOk PG w1j (G62 std):=okF (a:=an62) (l:=la62) (gC v1p (gN)) (by kernel_rfl) fun _ _=>by kernel_rfl
end Go.Am
end
section
namespace Go.Am
open M06
theorem y2t {x:Pt} (h:x≠(0,0)):(z2n x=false↔Pos x)∧(z2n x=true↔Pos (ng x)):=z8t h
theorem x4u {x y:Pt} (hx:x≠(0,0)) (hy:y≠(0,0)):z58 x y<0↔Bef x y:=by
 rw [x0g]
 obtain ⟨a1,a2⟩:=y2t hx
 obtain ⟨b1,b2⟩:=y2t hy
 unfold Bef
 rw [←a1, ←a2, ←b1, ←b2]
 cases z2n x<;>cases z2n y<;>simp
theorem x0f {x y:Pt} (hx:x≠(0,0)) (hy:y≠(0,0)):z58 x y=0↔z6r x y:=by
 have e1:=x4u hx hy
 constructor
 ·intro h
  rcases y2q hx hy with k|k|k
  ·have:=e1.2 k; omega
  ·exact k
  ·
   exfalso
   obtain ⟨a1,a2⟩:=y2t hx
   obtain ⟨b1,b2⟩:=y2t hy
   unfold z58 x2g at h
   rcases k with k|k|k
   ·have i1:=a2.2 k.2
    have i2:=b1.2 k.1
    simp [i1,i2] at h
   ·have i1:=a1.2 k.2.1
    have i2:=b1.2 k.1
    have:=k.2.2
    simp only [crs] at this
    have q1:¬ (0<x.1*y.2 - x.2*y.1):=by have:=Int.mul_comm x.1 y.2; have:=Int.mul_comm x.2 y.1; omega
    have q2:(0:Int)>x.1*y.2 - x.2*y.1:=by have:=Int.mul_comm x.1 y.2; have:=Int.mul_comm x.2 y.1; omega
    rw [if_neg (by rw [i1,i2]; simp),if_neg (by rw [i1,i2]; simp),if_neg q1,if_pos q2] at h
    cases h
   ·have i1:=a2.2 k.2.1
    have i2:=b2.2 k.1
    have:=k.2.2
    simp only [crs] at this
    have q1:¬ (0<x.1*y.2 - x.2*y.1):=by have:=Int.mul_comm x.1 y.2; have:=Int.mul_comm x.2 y.1; omega
    have q2:(0:Int)>x.1*y.2 - x.2*y.1:=by have:=Int.mul_comm x.1 y.2; have:=Int.mul_comm x.2 y.1; omega
    rw [if_neg (by rw [i1,i2]; simp),if_neg (by rw [i1,i2]; simp),if_neg q1,if_pos q2] at h
    cases h
 ·intro h
  obtain ⟨a1,a2⟩:=y2t hx
  obtain ⟨b1,b2⟩:=y2t hy
  have hb:z2n x=z2n y:=by
   rcases y43 x hx with p|p
   ·rw [a1.2 p,b1.2 (z43 h p)]
   ·rw [a2.2 p,b2.2 (z43 (y2f h) p)]
  have:=h.1
  simp only [crs] at this
  unfold z58 x2g
  rw [hb,this]
  cases z2n y<;>simp
theorem w64 {x y:Pt} (hx:z1e x) (hy:z1e y):G99 std ([eP x,eP y],())=some ((ad x y).1,(ad x y).2,()):=by
 have inner:∀ (u v o1 o2 q1 q2 n i:Int) (L:List (List D)), -2097152≤o1→o1≤2097152→ -2097152≤o2→o2≤2097152→ -2097152≤q1→q1≤2097152→ -2097152≤q2→q2≤2097152→
   z4n (x2q std) (u,v,o1,o2,L,n,i,q1,q2,(0:Int),())=some (u,v,o1+q1,o2+q2,L,n,i,()):=by
  intro u v o1 o2 q1 q2 n i L h1 h2 h3 h4 h5 h6 h7 h8
  have w1:IntKind.i64.wrap (o1+q1)=o1+q1:=by rw [z00]<;>omega
  have w2:IntKind.i64.wrap (o2+q2)=o2+q2:=by rw [z00]<;>omega
  have v1:IntKind.i64.wrap 1=1:=by decide
  have v2:IntKind.i64.wrap 2=2:=by decide
  have s0:x2q std (u,v,o1,o2,L,n,i,q1,q2,(0:Int),())=some (.inl (u,v,o1+q1,o2,L,n,i,q1,q2,(1:Int),())):=by
   simp [x2q,z0u,z0v,z0b,w1,v1]
  have s1:x2q std (u,v,o1+q1,o2,L,n,i,q1,q2,(1:Int),())=some (.inl (u,v,o1+q1,o2+q2,L,n,i,q1,q2,(2:Int),())):=by
   simp [x2q,z0u,z0v,z0b,w2,v2]
  have s2:x2q std (u,v,o1+q1,o2+q2,L,n,i,q1,q2,(2:Int),())=some (.inr (u,v,o1+q1,o2+q2,L,n,i,())):=by
   simp [x2q,z0u,z0v]
  rw [z0h,s0]
  simp only
  rw [z0h,s1]
  simp only
  rw [z0h,s2]
 obtain ⟨x1,x2,x3,x4⟩:=hx
 obtain ⟨y1,y2,y3,y4⟩:=hy
 have v1:IntKind.i64.wrap ((0:Int)+1)=1:=by decide
 have v2:IntKind.i64.wrap ((1:Int)+1)=2:=by decide
 have t0:y9o it0 std ((0:Int),(0:Int),(0:Int),(0:Int),[eP x,eP y],(2:Int),(0:Int),())=some (.inl ((0:Int),(0:Int),x.1,x.2,[eP x,eP y],(2:Int),(1:Int),())):=by
  have:=inner 0 0 0 0 x.1 x.2 2 0 [eP x,eP y] (by omega) (by omega) (by omega) (by omega) (by omega) (by omega) (by omega) (by omega)
  simp only [Int.zero_add] at this
  have e1:std.rdI [eP x,eP y] 0 0=x.1:=rfl
  have e2:std.rdI [eP x,eP y] 0 1=x.2:=rfl
  have c1:(0:Int)<2:=by omega
  simp only [y9o,it0_eq,z2a,z3x,z2w,z24,z3s,z3q,z5n,Int.toNat_zero,e1,e2,this,Option.bind_some,z0b,v1,c1,decide_true,if_true,y1c]
  rfl
 have t1:y9o it0 std ((0:Int),(0:Int),x.1,x.2,[eP x,eP y],(2:Int),(1:Int),())=some (.inl ((0:Int),(0:Int),x.1+y.1,x.2+y.2,[eP x,eP y],(2:Int),(2:Int),())):=by
  have:=inner 0 0 x.1 x.2 y.1 y.2 2 1 [eP x,eP y] (by omega) (by omega) (by omega) (by omega) (by omega) (by omega) (by omega) (by omega)
  have e1:std.rdI [eP x,eP y] 1 0=y.1:=rfl
  have e2:std.rdI [eP x,eP y] 1 1=y.2:=rfl
  have e3:(1:Int).toNat=1:=rfl
  have c1:(1:Int)<2:=by omega
  simp only [y9o,it0_eq,z2a,z3x,z2w,z24,z3s,z3q,z5n,e3,e1,e2,this,Option.bind_some,z0b,v2,c1,decide_true,if_true,y1c]
  rfl
 have t2:y9o it0 std ((0:Int),(0:Int),x.1+y.1,x.2+y.2,[eP x,eP y],(2:Int),(2:Int),())=some (.inr ((0:Int),(0:Int),x.1+y.1,x.2+y.2,())):=by
  have c1:¬ (2:Int)<2:=by omega
  simp only [y9o,it0_eq,z2a,z3x,z2w,z24,z3s,z3q,c1,decide_false,Bool.false_eq_true,if_false]
 unfold G99
 have e2:std.ofNat (std.len [eP x,eP y])=(2:Int):=rfl
 simp only [g99,it0_eq,e2,z24,z2w]
 rw [z0h,t0]
 simp only
 rw [z0h,t1]
 simp only
 rw [z0h,t2]
 rfl
end Go.Am
end
section
namespace Go.Am
open M06
theorem y7y:∀ l:List Pt,(M06.ways l).length=l.length - 1
 |[]=>rfl
 |[_]=>rfl
 |a::b::l=>by simp only [M06.ways,List.length_cons,y7y (b::l)]; omega
theorem x4n:∀ (l:List Pt) (i:Nat) (x y:Pt),l[i]?=some x→l[i+1]?=some y→(M06.ways l)[i]?=some (sb y x)
 |[],i,x,y,h,_=>by simp at h
 |[a],i,x,y,_,h=>by simp at h
 |a::b::l,0,x,y,h1,h2=>by
  simp at h1 h2; subst h1; subst h2; rfl
 |a::b::l,i+1,x,y,h1,h2=>by
  have:=x4n (b::l) i x y (by simpa using h1) (by simpa using h2)
  simpa [M06.ways] using this
theorem w57 {c:List Pt} (h:2≤c.length):(wy c).length=c.length:=by
 match c,h with
 |a::b::r,_=>simp [wy,y7y]
theorem z7k (c:List Pt):(wy c).length≤c.length:=by
 match c with
 |[]=>simp [wy]
 |[a]=>simp [wy]
 |a::b::r=>simp [wy,y7y]
theorem w58 {c:List Pt} {i:Nat} {x y:Pt} (h2:2≤c.length) (hx:c[i]?=some x) (hy:c[(i+1) % c.length]?=some y):(wy c)[i]?=some (sb y x):=by
 match c,h2 with
 |a::b::r,_=>
  have hi:i<(a::b::r).length:=(List.getElem?_eq_some_iff.1 hx).1
  refine x4n _ i x y ?_ ?_
  ·rw [List.getElem?_append_left hi]; exact hx
  ·by_cases hl:i+1<(a::b::r).length
   ·rw [List.getElem?_append_left hl]
    rwa [Nat.mod_eq_of_lt hl] at hy
   ·have he:i+1=(a::b::r).length:=by omega
    rw [he,Nat.mod_self] at hy
    rw [List.getElem?_append_right (by omega),he]
    simp at hy⊢; exact hy
theorem y7m {S c:List Pt} (h:Cyc S c) (h2:2≤c.length):∀ w∈wy c,w≠(0,0):=by
 match c,h2,h with
 |a::b::r,_,h=>exact (y1y h).2.2.1
theorem x3v {i n:Nat} (hn:0<n) (hi:i<1000000):IntKind.i64.wrap ((i:Int)+1)=((i+1:Nat):Int)∧(((i+1:Nat):Int).tmod (n:Int))=(((i+1) % n:Nat):Int):=by
 refine ⟨z04 (by omega),?_⟩
 rw [Int.tmod_eq_emod_of_nonneg (by omega)]
 rfl
theorem z37 {x y:Pt} (hx:z1e x) (hy:z1e y):IntKind.i64.wrap (x.1 - y.1)=(sb x y).1∧IntKind.i64.wrap (x.2 - y.2)=(sb x y).2:=by
 obtain ⟨x1,x2,x3,x4⟩:=hx
 obtain ⟨y1,y2,y3,y4⟩:=hy
 exact ⟨z00 _ (by omega) (by omega),z00 _ (by omega) (by omega)⟩
theorem y94 {S c:List Pt} (hc:Cyc S c) (hs:∀ x∈c,z1e x) (hl:c.length≤1000) (o:List Pt) (ho:o.length≤1000) (Ls X Y:List (List D)) (n i:Int):
  z4n (y9r std) (Ls,z0d o,z0d c,n,X,Y,i,z0d c,(c.length:Int),(0:Int),())=some (.inl (Ls,z0d (o++wy c),z0d c,n,X,Y,i,()))∨
  z4n (y9r std) (Ls,z0d o,z0d c,n,X,Y,i,z0d c,(c.length:Int),(0:Int),())=some (.inr (Ls,z0d (o++wy c),z0d c,n,X,Y,i,())):=by
 by_cases h2:2≤c.length
 ·right
  have hnz:=y7m hc h2
  have hwl:=w57 h2
  have key:=z3k (b:=y9r std) (fun (j:Nat)=>(Ls,z0d (o++(wy c).take j),z0d c,n,X,Y,i,z0d c,(c.length:Int),(j:Int),())) (fun j=>j≤c.length) (fun j=>c.length - j) (fun _=>Sum.inr (Ls,z0d (o++wy c),z0d c,n,X,Y,i,())) (fun j hj=>by
   by_cases hlt:j<c.length
   ·left
    obtain ⟨x,hx⟩:=z0l hlt
    obtain ⟨y,hy⟩:=z0l (l:=c) (i:=(j+1) % c.length) (Nat.mod_lt _ (by omega))
    have hw:=w58 h2 hx hy
    have hne:=hnz _ (List.mem_of_getElem? hw)
    obtain ⟨m1,m2⟩:=x3v (i:=j) (n:=c.length) (by omega) (by omega)
    have gx:=z0w hx
    have gy:=z0w hy
    obtain ⟨d1,d2⟩:=z37 (hs y (List.mem_of_getElem? hy)) (hs x (List.mem_of_getElem? hx))
    have c1:(j:Int)<(c.length:Int):=by omega
    have c2:(j:Int)≥0:=by omega
    have c3:¬ (c.length:Int)=0:=by omega
    have c4:(((j+1) % c.length:Nat):Int)≥0:=by omega
    have c5:(((j+1) % c.length:Nat):Int)<(c.length:Int):=by have:=Nat.mod_lt (j+1) (show 0<c.length by omega); omega
    have hol2:(o++(wy c).take (j+1)).length≤1000000:=by simp; omega
    have hol:(o++(wy c).take j).length+1≤1000000:=by simp; omega
    have htk:(z0d (o++(wy c).take j)).take (o++(wy c).take j).length=z0d (o++(wy c).take j):=by rw [List.take_of_length_le (by rw [z0c]; omega)]
    have hap:z0d (o++(wy c).take j)++[eP (sb y x)]=z0d (o++(wy c).take (j+1)):=by
     rw [z0q hw]; simp [z0d]
    have hrow:[D.int IntKind.i64 (sb y x).1,D.int IntKind.i64 (sb y x).2]=eP (sb y x):=rfl
    have hal:(o++(wy c).take j).length+1=(o++(wy c).take (j+1)).length:=by rw [z0q hw]; simp; omega
    have hne':¬ ((sb y x).1=0∧(sb y x).2=0):=fun e=>hne (Prod.ext e.1 e.2)
    refine ⟨j+1,?_,by omega,by omega,rfl⟩
    by_cases z1:(sb y x).1=0
    ·have z2:¬ (sb y x).2=0:=fun e=>hne' ⟨z1,e⟩
     simp only [y9r,z0u,z0v,z0g,z0z,z0y,z1f,z0i,z0c,z0b,z1x,z0k,m1,m2,gx,gy,d1,d2,c1,c2,c3,c4,c5,z1,z2,htk,hol2,List.drop_zero,List.take_succ_cons,List.take_zero,hap,hrow,hal,Nat.le_refl,not_false_eq_true]
     rw [←z1]
     simp only [z0u,z0v,z0g,z0z,z0y,z1f,z0i,z0c,hap,hrow,hal,hol2,Nat.le_refl]
    ·simp only [y9r,z0u,z0v,z0g,z0z,z0y,z1f,z0i,z0c,z0b,z1x,z0k,m1,m2,gx,gy,d1,d2,c1,c2,c3,c4,c5,z1,htk,hol2,List.drop_zero,List.take_succ_cons,List.take_zero,hap,hrow,hal,Nat.le_refl,not_false_eq_true]
   ·right
    have:j=c.length:=by omega
    subst this
    have hn:¬ ((c.length:Int)<(c.length:Int)):=by omega
    rw [←hwl,List.take_length,hwl]
    simp only [y9r,z0u,z0v,hn]) 0 (Nat.zero_le _)
  simpa using key
 ·left
  have hc1:∃ x,c=[x]:=by
   match c,hc,h2 with
   |[x],_,_=>exact ⟨x,rfl⟩
   |a::b::r,_,h2=>exact absurd (by simp) h2
  obtain ⟨x,rfl⟩:=hc1
  ·have gx:=z0w (l:=[x]) (i:=0) rfl
   obtain ⟨d1,d2⟩:=z37 (hs x (by simp)) (hs x (by simp))
   have z1:(sb x x).1=0:=by simp [sb]
   have z2:(sb x x).2=0:=by simp [sb]
   rw [z1] at d1
   rw [z2] at d2
   have w1:IntKind.i64.wrap 1=1:=by decide
   have t1:(1:Int).tmod 1=0:=by decide
   rw [z0h]
   have:y9r std (Ls,z0d o,z0d [x],n,X,Y,i,z0d [x],(([x]:List Pt).length:Int),(0:Int),())=some (.inr (.inl (Ls,z0d (o++wy [x]),z0d [x],n,X,Y,i,()))):=by
    have e:wy [x]=[]:=rfl
    rw [e,List.append_nil]
    have c1:(0:Int)<((0+1:Nat):Int):=by omega
    have l1:((0+1:Nat):Int)=1:=rfl
    simp only [y9r,z0u,z0v,z0g,z0z,z0y,z1f,z0i,z0c,z0b,z1x,z0k,l1,Int.zero_add,w1,t1,gx,d1,d2,Int.toNat_zero,ge_iff_le,Int.le_refl,show (0:Int)<1 by decide,show ¬ (1:Int)=0 by decide,not_false_eq_true]
   rw [this]
theorem z16 {x:Pt} (h:z0m (-5000) 5000 x):z1e x:=by
 obtain ⟨h1,h2,h3,h4⟩:=h
 exact ⟨by omega,by omega,by omega,by omega⟩
theorem z8a {x y:Pt} (h:z0m (-5000) 5000 x) (k:z0m (-5000) 5000 y):z0m (-10000) 10000 (sb x y):=by
 obtain ⟨h1,h2,h3,h4⟩:=h
 obtain ⟨k1,k2,k3,k4⟩:=k
 refine ⟨?_,?_,?_,?_⟩<;>simp only [sb]<;>omega
theorem x4o:∀ {l:List Pt},(∀ x∈l,z0m (-5000) 5000 x)→∀ w∈M06.ways l,z0m (-10000) 10000 w
 |[],_,w,hw=>by simp [M06.ways] at hw
 |[_],_,w,hw=>by simp [M06.ways] at hw
 |a::b::l,h,w,hw=>by
  rcases List.mem_cons.1 hw with rfl|hw
  ·exact z8a (h b (by simp)) (h a (by simp))
  ·exact x4o (l:=b::l) (fun x hx=>h x (List.mem_cons_of_mem _ hx)) w hw
theorem y92 {c:List Pt} (h:∀ x∈c,z0m (-5000) 5000 x):∀ w∈wy c,z0m (-10000) 10000 w:=by
 match c,h with
 |[],_=>simp [wy]
 |[a],_=>simp [wy]
 |a::b::r,h=>
  refine x4o (l:=a::b::r++[a]) fun x hx=>?_
  rcases List.mem_append.1 hx with hx|hx
  ·exact h x hx
  ·simp at hx; subst hx; exact h _ (by simp)
theorem x4w:∀ {l:List Pt},(∀ w∈l,z0m (-10000) 10000 w)→z0m (-(10000*(l.length:Int))) (10000*(l.length:Int)) (z1p l)
 |[],_=>by simp [z1p,z0m]
 |w::l,h=>by
  have h1:=h w (by simp)
  have h2:=x4w (l:=l) (fun x hx=>h x (List.mem_cons_of_mem _ hx))
  rw [z01]
  simp only [z0m,ad,List.length_cons] at*
  omega
theorem y8x:∀ (now:Pt) (ws:List Pt),(grp now ws).length≤ws.length
 |_,[]=>by simp [grp]
 |_,[w]=>by simp [grp]
 |now,w::w'::ws=>by
  rw [grp]
  split
  ·have:=y8x (ad now w) (w'::ws); simp at this⊢; omega
  ·have:=y8x (ad now w) (w'::ws); simp at this⊢; omega
theorem u1e {S a:List Pt} (h:Cyc S a):∀ w∈wy a,w≠(0,0):=by
 match a,h with
 |[x],_=>simp [wy]
 |x::y::r,h=>exact (y1y h).2.2.1
theorem v6f {A B a b:List Pt} (hA:Cyc A a) (hB:Cyc B b) (ka:∀ x∈a,z0m (-5000) 5000 x) (kb:∀ x∈b,z0m (-5000) 5000 x) (la:a.length≤60) (lb:b.length≤30):
  ∃ c,G80 std (z0d a,z0d b,())=some (z0d c,())∧c.length≤a.length+b.length∧∀ T,(∀ z,z∈T↔∃ x∈A,∃ y∈B,z=ad x y)→Cyc T c:=by
 have sa:∀ x∈a,z1e x:=fun x hx=>z16 (ka x hx)
 have sb':∀ x∈b,z1e x:=fun x hx=>z16 (kb x hx)
 have hbox:∀ w∈wy a++wy b,z0m (-10000) 10000 w:=fun w hw=>by
  rcases List.mem_append.1 hw with h|h
  ·exact y92 ka w h
  ·exact y92 kb w h
 have hnz:∀ w∈wy a++wy b,w≠(0,0):=fun w hw=>by
  rcases List.mem_append.1 hw with h|h
  ·exact u1e hA w h
  ·exact u1e hB w h
 have hsm:∀ {w:Pt},z0m (-10000) 10000 w→z1e w:=fun {w} h=>by
  obtain ⟨h1,h2,h3,h4⟩:=h
  exact ⟨by omega,by omega,by omega,by omega⟩
 have hlen:(wy a++wy b).length≤a.length+b.length:=by
  have:=z7k a; have:=z7k b; simp; omega
 obtain ⟨ws,hg97,hp,hs⟩:=v1h (wy a++wy b) (fun w hw=>⟨hsm (hbox w hw),hnz w hw⟩) (by omega)
 have hwl:ws.length≤a.length+b.length:=by rw [hp.length_eq]; exact hlen
 have wbox:∀ w∈ws,z0m (-10000) 10000 w:=fun w hw=>hbox w (hp.mem_iff.1 hw)
 have wnz:∀ w∈ws,w≠(0,0):=fun w hw=>hnz w (hp.mem_iff.1 hw)
 have hs':ws.Pairwise (fun u v=>¬ Bef v u):=hs.imp_of_mem fun {u v} hu hv h hb=>h ((x4u (wnz v hv) (wnz u hu)).2 hb)
 generalize hs0:ad (hd0 a) (hd0 b)=s0
 have ha0:a[0]?=some (hd0 a):=by
  match a,hA with
  |x::r,_=>rfl
 have hb0:b[0]?=some (hd0 b):=by
  match b,hB with
  |x::r,_=>rfl
 have ka0:=ka _ (List.mem_of_getElem? ha0)
 have kb0:=kb _ (List.mem_of_getElem? hb0)
 have hs0b:z0m (-10000) 10000 s0:=by
  rw [←hs0]
  simp only [z0m,ad] at*; omega
 have hnowbox:∀ i,z1e (ad s0 (z1p (ws.take i))):=fun i=>by
  have h1:=x4w (l:=ws.take i) (fun w hw=>wbox w (List.mem_of_mem_take hw))
  have h2:(ws.take i).length≤90:=by simp; omega
  simp only [z0m,ad,z1e] at*; omega
 refine ⟨w3w s0 ws,?_,?_,fun T hT=>?_⟩
 rotate_left
 ·have h1:=y8x s0 ws
  have ha1:1≤a.length:=by have:=(List.getElem?_eq_some_iff.1 ha0).1; omega
  unfold w3w
  split
  ·simp; omega
  ·simp only [List.length_cons] at*; omega
 ·rw [←hs0]
  exact y8o hA hB hT hp hs'
 have hways:z4n (y3o it0 std) ([[D.list false 2 (z0d a)],[D.list false 2 (z0d b)]],[],z0d a,z0d b,(2:Int),(0:Int),())=some (z0d (wy a++wy b),z0d a,z0d b,()):=by
  generalize hL:[[D.list false 2 (z0d a)],[D.list false 2 (z0d b)]]=L
  have r0:std.rdL L 0 0=z0d a:=by subst hL; rfl
  have r1:std.rdL L 1 0=z0d b:=by subst hL; rfl
  have k0:std.rowOk L 0 [CK.list 2]=true:=by subst hL; rfl
  have k1:std.rowOk L 1 [CK.list 2]=true:=by subst hL; rfl
  have hl2:L.length=2:=by subst hL; rfl
  have e1:(0:Int).toNat=0:=rfl
  have e2:(1:Int).toNat=1:=rfl
  have v1:IntKind.i64.wrap ((0:Int)+1)=1:=by decide
  have v2:IntKind.i64.wrap ((1:Int)+1)=2:=by decide
  have v1':IntKind.i64.wrap 1=1:=by decide
  have v2':IntKind.i64.wrap 2=2:=by decide
  have t0:y3o it0 std (L,[],z0d a,z0d b,(2:Int),(0:Int),())=some (.inl (L,z0d (wy a),z0d a,z0d b,(2:Int),(1:Int),())):=by
   have hw:=y94 hA sa (by omega) [] (by simp) L (z0d b) (z0d a) 2 0
   have en:z0d []=[]:=rfl
   rw [en] at hw
   simp only [List.nil_append] at hw
   rcases hw with hw|hw
   ·simp only [y3o,it0_eq,z2a,z3x,z2w,z24,z3s,z69,z3q,z4a,z5n,z8e,z2t,z1k,e1,Nat.zero_add,r0,k0,hl2,z0c,hw,Option.bind_some,Sum.elim_inl,Sum.elim_inr,z0b,v1,z4s,z5j]
    simp [v1']
   ·simp only [y3o,it0_eq,z2a,z3x,z2w,z24,z3s,z69,z3q,z4a,z5n,z8e,z2t,z1k,e1,Nat.zero_add,r0,k0,hl2,z0c,hw,Option.bind_some,Sum.elim_inl,Sum.elim_inr,z0b,v1,z4s,z5j]
    simp [v1']
  have t1:y3o it0 std (L,z0d (wy a),z0d a,z0d b,(2:Int),(1:Int),())=some (.inl (L,z0d (wy a++wy b),z0d a,z0d b,(2:Int),(2:Int),())):=by
   have hw:=y94 hB sb' (by omega) (wy a) (by have:=z7k a; omega) L (z0d b) (z0d a) 2 1
   rcases hw with hw|hw
   ·simp only [y3o,it0_eq,z2a,z3x,z2w,z24,z3s,z69,z3q,z4a,z5n,z8e,z2t,z1k,e2,Nat.zero_add,r1,k1,hl2,z0c,hw,Option.bind_some,Sum.elim_inl,Sum.elim_inr,z0b,v2,z4s,z5j]
    simp [v2']
   ·simp only [y3o,it0_eq,z2a,z3x,z2w,z24,z3s,z69,z3q,z4a,z5n,z8e,z2t,z1k,e2,Nat.zero_add,r1,k1,hl2,z0c,hw,Option.bind_some,Sum.elim_inl,Sum.elim_inr,z0b,v2,z4s,z5j]
    simp [v2']
  have t2:y3o it0 std (L,z0d (wy a++wy b),z0d a,z0d b,(2:Int),(2:Int),())=some (.inr (z0d (wy a++wy b),z0d a,z0d b,())):=by
   have c1:¬ (2:Int)<2:=by omega
   simp only [y3o,z0u,z0v,c1]
  rw [z0h,t0]
  simp only
  rw [z0h,t1]
  simp only
  rw [z0h,t2]
 have h99:=w64 (z16 ka0) (z16 kb0)
 rw [hs0] at h99
 unfold G99 at h99
 have hgrp:=z3k (b:=x2l it0 std) (fun (s:List Pt×Nat)=>(z0d s.1,z0d ws,(ad s0 (z1p (ws.take s.2))).1,(ad s0 (z1p (ws.take s.2))).2,(0:Nat),s.1.length,(ws.length:Int),(s.2:Int),()))
  (fun s=>s.2≤ws.length∧s.1.length≤s.2+1) (fun s=>ws.length - s.2) (fun s=>(z0d (s.1++grp (ad s0 (z1p (ws.take s.2))) (ws.drop s.2)),(0:Nat),(s.1++grp (ad s0 (z1p (ws.take s.2))) (ws.drop s.2)).length,())) (by
  rintro ⟨dn,i⟩ ⟨hi,hdn⟩
  simp only at hi hdn⊢
  by_cases hlt:i<ws.length
  ·left
   obtain ⟨w,hw⟩:=z0l hlt
   have hww:=List.mem_of_getElem? hw
   have gw:=z0w hw
   have e9:=w64 (hnowbox i) (hsm (wbox w hww))
   have hnow:ad (ad s0 (z1p (ws.take i))) w=ad s0 (z1p (ws.take (i+1))):=by
    rw [z0q hw,z26,z01,z2i,z1n,z2s]
   rw [hnow] at e9
   unfold G99 at e9
   have hd:=x58 hw
   have c1:(i:Int)<(ws.length:Int):=by omega
   have c2:(i:Int)≥0:=by omega
   have hwr:=z04 (i:=i) (by omega)
   have htk:(z0d dn).take dn.length=z0d dn:=by rw [List.take_of_length_le (by rw [z0c]; omega)]
   have hrow:∀ p:Pt,[D.int IntKind.i64 p.1,D.int IntKind.i64 p.2]=eP p:=fun _=>rfl
   have hap:∀ p:Pt,z0d dn++[eP p]=z0d (dn++[p]):=fun p=>by simp [z0d]
   have hdl:dn.length≤1000:=by omega
   have hdl1:dn.length+1≤1000000:=by omega
   have hal:∀ p:Pt,dn.length+1=(dn++[p]).length:=fun p=>by simp
   by_cases hl:i+1<ws.length
   ·obtain ⟨w',hw'⟩:=z0l hl
    have hww':=List.mem_of_getElem? hw'
    have gw':=z0w hw'
    have hd':=x58 hw'
    have c3:((i+1:Nat):Int)<(ws.length:Int):=by omega
    have c4:((i+1:Nat):Int)≥0:=by omega
    have e8:=w2l (hsm (wbox w hww)) (hsm (wbox w' hww'))
    by_cases hsame:z6r w w'
    ·refine ⟨(dn,i+1),?_,⟨by simp only; omega,by simp only; omega⟩,by simp only; omega,?_⟩
     ·have ht:=(x0f (wnz w hww) (wnz w' hww')).2 hsame
      simp only [x2l,it0_eq,z0u,z0v,z0g,z0z,z0y,z1f,z0i,z0c,z0b,hwr,c1,c2,c3,c4,gw,gw',e8,ht,Int.zero_add,hrow,List.take_succ_cons,List.take_zero,List.drop_zero,Nat.le_refl,e9]
     ·simp only [hd,hd']
      rw [grp,if_pos hsame,hnow, ←hd']
    ·refine ⟨(dn++[ad s0 (z1p (ws.take (i+1)))],i+1),?_,⟨by simp only; omega,by simp; omega⟩,by simp only; omega,?_⟩
     ·have ht:¬ z58 w w'=0:=fun e=>hsame ((x0f (wnz w hww) (wnz w' hww')).1 e)
      have h1:=hap (ad s0 (z1p (ws.take (i+1))))
      have h2:=hal (ad s0 (z1p (ws.take (i+1))))
      simp only [x2l,it0_eq,z0u,z0v,z0g,z0z,z0y,z1f,z0i,z0c,z0b,hwr,c1,c2,c3,c4,gw,gw',e8,ht,Int.zero_add,hrow,List.take_succ_cons,List.take_zero,List.drop_zero,Nat.le_refl,e9,htk,hdl1,h1,h2]
      simp only [List.length_append,List.length_cons,List.length_nil,Nat.zero_add,hdl1,Nat.le_refl,if_true,Option.bind_some,hwr]
     ·simp only [hd,hd']
      rw [grp,if_neg hsame,hnow, ←hd',List.append_assoc]; rfl
   ·have hie:i+1=ws.length:=by omega
    have c3:¬ ((i+1:Nat):Int)<(ws.length:Int):=by omega
    refine ⟨(dn++[ad s0 (z1p (ws.take (i+1)))],i+1),?_,⟨by simp only; omega,by simp; omega⟩,by simp only; omega,?_⟩
    ·have h1:=hap (ad s0 (z1p (ws.take (i+1))))
     have h2:=hal (ad s0 (z1p (ws.take (i+1))))
     simp only [x2l,it0_eq,z0u,z0v,z0g,z0z,z0y,z1f,z0i,z0c,z0b,hwr,c1,c2,c3,gw,Int.zero_add,hrow,List.take_succ_cons,List.take_zero,List.drop_zero,Nat.le_refl,e9,htk,hdl1,h1,h2]
     simp only [List.length_append,List.length_cons,List.length_nil,Nat.zero_add,hdl1,Nat.le_refl,if_true,Option.bind_some,hwr]
    ·have hdn':ws.drop (i+1)=[]:=by rw [hie]; simp
     simp only [hd,hdn',grp,hnow,List.append_nil]
  ·right
   have:i=ws.length:=by omega
   subst this
   have hn:¬ ((ws.length:Int)<(ws.length:Int)):=by omega
   simp only [x2l,z0u,z0v,hn,List.drop_length,grp,List.append_nil]) ([s0],0) ⟨Nat.zero_le _,by simp⟩
 simp only [List.take_zero,List.drop_zero,z2i,z1n] at hgrp
 unfold G80
 have hg97:v3z it0 std (z0d (wy a++wy b),())=some (z0d ws,()):=hg97
 have e0:std.ofNat 2=(2:Int):=rfl
 have g0a:=z0w ha0
 have g0b:=z0w hb0
 have z0:(0:Int).toNat=0:=rfl
 have hrow:∀ p:Pt,[D.int IntKind.i64 p.1,D.int IntKind.i64 p.2]=eP p:=fun _=>rfl
 have hpl:(wy a++wy b).length=ws.length:=hp.length_eq.symm
 have hs0e:[eP s0]=z0d [s0]:=rfl
 have hl1:([s0]:List Pt).length=1:=rfl
 have k0:((0:Nat):Int)=0:=rfl
 simp only [k0,hl1] at hgrp
 simp only [g80,it0_eq,e0,hways,z0,hg97,z0u,z0v,z0g,z0z,z0y,z1f,z0i,z0c,g0a,g0b,hrow,List.take_succ_cons,List.take_zero,List.drop_zero,Nat.le_refl,h99,hpl,hs0e,hgrp,List.singleton_append,List.length_cons]
 have hgle:=y8x s0 ws
 generalize hgl:(grp s0 ws).length=gl at hgle
 have hm:w3w s0 ws=if 1<gl+1 then (s0::grp s0 ws).dropLast else s0::grp s0 ws:=by rw [w3w,List.length_cons,hgl]
 rw [hm]
 by_cases h1:1<gl+1
 ·have c1:((gl+1:Nat):Int)>1:=by omega
  have v1:IntKind.i64.wrap (((gl+1:Nat):Int) - 1)=(gl:Int):=by rw [z00]<;>omega
  have c2:(0:Int)≤(gl:Int):=by omega
  have c3:(gl:Int)≤((gl+1:Nat):Int):=by omega
  have c4:gl≤gl+1:=by omega
  simp only [z0u,z0v,z0g,z0z,z0y,z1f,z0i,z0c,c1,z0k,v1,c2,c3,ge_iff_le,Int.le_refl,Int.toNat_zero,Nat.sub_zero,Nat.add_zero,List.length_cons,hgl,c4,List.drop_zero,h1]
  rw [List.dropLast_eq_take]
  simp [z0d,hgl]
 ·have c1:¬ ((gl+1:Nat):Int)>1:=by omega
  simp only [z0u,z0v,z0g,z0z,z0y,z1f,z0i,z0c,c1,List.length_cons,hgl,Nat.le_refl,List.drop_zero,h1]
  rw [List.take_of_length_le (by rw [z0c]; simp [hgl])]
end Go.Am
end
section
namespace M06
theorem x07 {S:List Pt} {e:Pt}:∀ {l:List Pt} {a:Pt},Pth S (a::l++[e])→e∉l→l.Nodup
 |[],_,_,_=> .nil
 |b::l,a,h,hn=>by
  have ih:=x07 (l:=l) (a:=b) h.2 (fun x=>hn (List.mem_cons_of_mem _ x))
  refine List.nodup_cons.2 ⟨fun hb=>?_,ih⟩
  obtain ⟨l2,l3,rfl⟩:=List.append_of_mem hb
  have tl:∀ (u v:List Pt),Pth S (u++v)→Pth S v:=by
   intro u
   induction u with
   |nil=>intro v h; exact h
   |cons x u ih=>intro v h; exact ih v h.tail
  have h1:Pth S (b::(l2++b::l3)++[e]):=h.2
  have h2:Pth S (b::l3++[e]):=by
   refine tl (b::l2) _ ?_
   have:b::(l2++b::l3)++[e]=(b::l2)++(b::l3++[e]):=by simp
   rwa [this] at h1
  have:=y2i h1 h2 (fun x=>hn (List.mem_cons_of_mem _ x)) (fun x=>hn (List.mem_cons_of_mem _ (by simp [x])))
  have:=congrArg List.length this
  simp at this
  omega
theorem y1z {S c:List Pt} (h:Cyc S c):c.Nodup:=by
 match c,h with
 |a::r,h=>
  rcases h.2.2 with ⟨hr,_⟩|⟨_,hp,hn⟩
  ·subst hr; simp
  ·exact List.nodup_cons.2 ⟨hn,x07 hp hn⟩
theorem x1h {α:Type} [DecidableEq α]:∀ {l m:List α},l.Nodup→(∀ x∈l,x∈m)→l.length≤m.length
 |[],m,_,_=>by simp
 |a::l,m,h,hs=>by
  have h1:=List.nodup_cons.1 h
  have:=x1h (l:=l) (m:=m.erase a) h1.2 (fun x hx=>by
   refine (List.mem_erase_of_ne ?_).2 (hs x (List.mem_cons_of_mem _ hx))
   rintro rfl; exact h1.1 hx)
  have ha:a∈m:=hs a (by simp)
  rw [List.length_erase_of_mem ha] at this
  have:0<m.length:=List.length_pos_of_mem ha
  simp only [List.length_cons]; omega
theorem y86 {S c:List Pt} (h:Cyc S c):c.length≤S.length:=x1h (y1z h) (z4z h)
noncomputable def z1g (S:List Pt):List Pt:=Classical.epsilon (Cyc S)
theorem z2f {S:List Pt} (h:S≠[]):Cyc S (z1g S):=by
 obtain ⟨c,hc,_⟩:=y7n h
 exact Classical.epsilon_spec ⟨c,hc⟩
theorem y9h {S c:List Pt} (h:Cyc S c):z1g S=c:=y7l (z2f (z8x h)) h
theorem z4g {S:List Pt} (h:S≠[]):z1g S≠[]:=by
 have:=z2f h
 intro e
 rw [e] at this
 exact this
def z20 (A B:List Pt):List Pt:=A.flatMap fun x=>B.map (ad x)
theorem z6j {A B:List Pt} (z:Pt):z∈z20 A B↔∃ x∈A,∃ y∈B,z=ad x y:=by
 simp only [z20,List.mem_flatMap,List.mem_map]
 exact ⟨fun ⟨x,hx,y,hy,e⟩=>⟨x,hx,y,hy,e.symm⟩,fun ⟨x,hx,y,hy,e⟩=>⟨x,hx,y,hy,e.symm⟩⟩
theorem y3r {A B:List Pt} (hA:A≠[]) (hB:B≠[]):z20 A B≠[]:=by
 match A,B,hA,hB with
 |a::A,b::B,_,_=>intro h; have:=(z6j (A:=a::A) (B:=b::B) (ad a b)).2 ⟨a,by simp,b,by simp,rfl⟩; rw [h] at this; simp at this
def z1i (l:List Pt) (hs:List (List Pt)):List Pt:=hs.foldl z20 l
theorem y12 (l:List Pt) (hs:List (List Pt)) (h:List Pt):z1i l (hs++[h])=z20 (z1i l hs) h:=by simp [z1i,List.foldl_append]
theorem v0t {l:List Pt} {hs:List (List Pt)} (hl:l≠[]) (hh:∀ h∈hs,h≠[]):z1i l hs≠[]:=by
 induction hs generalizing l with
 |nil=>exact hl
 |cons h hs ih=>exact ih (y3r hl (hh h (by simp))) (fun x hx=>hh x (List.mem_cons_of_mem _ hx))
theorem w1z {A B a b:List Pt} (hA:Cyc A a) (hB:Cyc B b):Cyc (z20 a b) (z1g (z20 A B)):=by
 have hne:=y3r (z8x hA) (z8x hB)
 have h1:=z2f hne
 have hne2:=y3r (z8x (z1w hA)) (z8x (z1w hB))
 obtain ⟨ws,hp,hs⟩:∃ ws:List Pt,ws.Perm (wy a++wy b)∧ws.Pairwise (fun u v=>¬ Bef v u):=by
  have ins:∀ (l:List Pt),(∀ w∈l,w≠(0,0))→∃ ws:List Pt,ws.Perm l∧ws.Pairwise (fun u v=>¬ Bef v u):=by
   intro l
   induction l with
   |nil=>intro _; exact ⟨[], .refl _, .nil⟩
   |cons w l ih=>
    intro hnz
    obtain ⟨ws,h1,h2⟩:=ih (fun x hx=>hnz x (List.mem_cons_of_mem _ hx))
    have hw:=hnz w (by simp)
    have hws:∀ x∈ws,x≠(0,0):=fun x hx=>hnz x (List.mem_cons_of_mem _ (h1.mem_iff.1 hx))
    have one:∀ (ws:List Pt),(∀ x∈ws,x≠(0,0))→ws.Pairwise (fun u v=>¬ Bef v u)→∃ q:List Pt,q.Perm (w::ws)∧q.Pairwise (fun u v=>¬ Bef v u):=by
     intro ws
     induction ws with
     |nil=>intro _ _; exact ⟨[w], .refl _,by simp⟩
     |cons x ws ih=>
      intro hz hs
      by_cases hb:Bef x w
      ·obtain ⟨q,q1,q2⟩:=ih (fun y hy=>hz y (List.mem_cons_of_mem _ hy)) (List.pairwise_cons.1 hs).2
       refine ⟨x::q,(q1.cons x).trans (.swap ..),List.pairwise_cons.2 ⟨fun y hy hc=>?_,q2⟩⟩
       rcases List.mem_cons.1 (q1.mem_iff.1 hy) with rfl|hy
       ·exact hb.asymm hc
       ·exact (List.pairwise_cons.1 hs).1 y hy hc
      ·refine ⟨w::x::ws, .refl _,List.pairwise_cons.2 ⟨fun y hy hc=>?_,hs⟩⟩
       rcases List.mem_cons.1 hy with rfl|hy
       ·exact hb hc
       ·
        exact hb (w6k (hz x (by simp)) ((List.pairwise_cons.1 hs).1 y hy) hc)
    obtain ⟨q,q1,q2⟩:=one ws hws h2
    exact ⟨q,q1.trans (h1.cons w),q2⟩
  have wz:∀ {S a:List Pt},Cyc S a→∀ w∈wy a,w≠(0,0):=by
   intro S a h
   match a,h with
   |[x],_=>simp [wy]
   |x::y::r,h=>exact (y1y h).2.2.1
  refine ins _ fun w hw=>?_
  rcases List.mem_append.1 hw with h|h
  ·exact wz hA w h
  ·exact wz hB w h
 have m1:=y8o hA hB (T:=z20 A B) z6j hp hs
 have m2:=y8o (z1w hA) (z1w hB) (T:=z20 a b) z6j hp hs
 rw [y9h m1]; exact m2
end M06
end
section
namespace Go.Am
open M06
structure z49 (l:List Pt) (hs:List (List Pt)):Prop where
 many:z6q l
 few:hs.length≤4
 manyH:∀ h∈hs,z6q h
 box:∀ p∈l,z0m 0 1000 p
 boxH:∀ h∈hs,∀ p∈h,z0m (-1000) 1000 p
theorem z3p {l:List Pt} {hs:List (List Pt)}:z80 l hs=0↔z49 l hs:=by
 unfold z80
 constructor
 ·intro h
  split at h
  ·cases h
  ·rename_i h1
   split at h
   ·cases h
   ·rename_i h2
    simp only [not_or,Classical.not_not,not_exists,not_and] at h1 h2
    exact ⟨h1.1,by omega,fun x hx=>h1.2.2 x hx,h2.1,fun x hx=>h2.2 x hx⟩
 ·intro h
  rw [if_neg,if_neg]
  ·rintro (k|⟨x,hx,k⟩)
   ·exact k h.box
   ·exact k (h.boxH x hx)
  ·rintro (k|k|⟨x,hx,k⟩)
   ·exact k h.many
   ·have:=h.few; omega
   ·exact k (h.manyH x hx)
theorem z49.ne {l:List Pt} {hs:List (List Pt)} (h:z49 l hs):l≠[]:=by
 rintro rfl; have:=h.many.1; simp at this
theorem z49.neH {l:List Pt} {hs:List (List Pt)} (h:z49 l hs):∀ x∈hs,x≠[]:=by
 rintro x hx rfl; have:=(h.manyH [] hx).1; simp at this
theorem z49.allNe {l:List Pt} {hs:List (List Pt)} (h:z49 l hs):z1i l hs≠[]:=v0t h.ne h.neH
theorem w5t {l:List Pt} (hl:∀ p∈l,z0m (-1000) 1000 p):∀ {hs:List (List Pt)},(∀ h∈hs,∀ p∈h,z0m (-1000) 1000 p)→
    ∀ p∈z1i l hs,z0m (-(1000*((hs.length:Int)+1))) (1000*((hs.length:Int)+1)) p:=by
  have main:∀ (n:Nat) (hs:List (List Pt)),hs.length=n→(∀ h∈hs,∀ p∈h,z0m (-1000) 1000 p)→∀ p∈z1i l hs,z0m (-(1000*((hs.length:Int)+1))) (1000*((hs.length:Int)+1)) p:=by
   intro n
   induction n with
   |zero=>intro hs h0 _ p hp; rw [List.length_eq_zero_iff.1 h0] at hp⊢; simpa using hl p hp
   |succ n ih=>
    intro hs hn hh p hp
    rcases List.eq_nil_or_concat hs with rfl|⟨hs,h,rfl⟩
    · simp at hn
    rw [List.concat_eq_append] at*
    have ih:=ih hs (by simpa using hn)
    rw [y12,z6j] at hp
    obtain ⟨x,hx,y,hy,rfl⟩:=hp
    have h1:=ih (fun h hm=>hh h (List.mem_append_left _ hm)) x hx
    have h2:=hh h (by simp) y hy
    simp only [z0m,ad,List.length_append,List.length_cons,List.length_nil] at*
    omega
  intro hs
  exact main _ hs rfl
theorem z49.take {l:List Pt} {hs:List (List Pt)} (h:z49 l hs) (i:Nat):z49 l (hs.take i):=
 ⟨h.many,by have:=h.few; simp; omega,fun x hx=>h.manyH x (List.mem_of_mem_take hx),h.box,fun x hx=>h.boxH x (List.mem_of_mem_take hx)⟩
theorem z49.boxA {l:List Pt} {hs:List (List Pt)} (h:z49 l hs):∀ p∈z1i l hs,z0m (-5000) 5000 p:=by
 intro p hp
 have:=w5t (l:=l) (fun p hp=>by obtain ⟨a,b,c,d⟩:=h.box p hp; exact ⟨by omega,by omega,by omega,by omega⟩) h.boxH p hp
 have h4:=h.few
 simp only [z0m] at*; omega
theorem z49.cyc {l:List Pt} {hs:List (List Pt)} (h:z49 l hs):Cyc (z1i l hs) (z1g (z1i l hs)):=z2f h.allNe
theorem z49.cbox {l:List Pt} {hs:List (List Pt)} (h:z49 l hs):∀ p∈z1g (z1i l hs),z0m (-5000) 5000 p:=fun p hp=>h.boxA p (z4z h.cyc p hp)
theorem y6o {x:Pt} {k:Int} (hk:k≤10000) (h:z0m (-k) k x):z1e x:=by
 obtain ⟨h1,h2,h3,h4⟩:=h
 exact ⟨by omega,by omega,by omega,by omega⟩
theorem y85 {hs:List (List Pt)} {i:Nat} {h:List Pt} (hh:hs[i]?=some h):(z1s hs)[i]?=some (eH h):=by simp [z1s,hh]
theorem y1u (hs:List (List Pt)):(z1s hs).length=hs.length:=by simp [z1s]
theorem z59 {hs:List (List Pt)} {i:Nat} {h:List Pt} (hh:hs[i]?=some h):hs.take (i+1)=hs.take i++[h]:=by
 rw [List.take_add_one,hh]; rfl
theorem y27 {l:List Pt} {hs:List (List Pt)} (hf:z49 l hs):
  z4n (x4k it0 std) (z0d l,z1s hs,z0d (z1g l),z1s hs,(hs.length:Int),(0:Int),())=some (z0d l,z1s hs,z0d (z1g (z1i l hs)),())∧(z1g (z1i l hs)).length≤60:=by
 have key:=w0c (b:=x4k it0 std) (fun (i:Nat)=>(z0d l,z1s hs,z0d (z1g (z1i l (hs.take i))),z1s hs,(hs.length:Int),(i:Int),())) (fun i=>i≤hs.length∧(z1g (z1i l (hs.take i))).length≤12*(i+1)) (fun i=>hs.length - i) (fun r=>r=(z0d l,z1s hs,z0d (z1g (z1i l hs)),())∧(z1g (z1i l hs)).length≤60) (fun i ⟨hi,hcl⟩=>by
  by_cases hlt:i<hs.length
  ·left
   obtain ⟨h,hh⟩:=z0l hlt
   have hm:=List.mem_of_getElem? hh
   have gh:=y85 hh
   have h4:=hf.few
   have hmany:=hf.manyH h hm
   obtain ⟨b,hb1,hb2⟩:=w7b (l:=h) hmany.1 hmany.2 (fun x hx=>y6o (k:=1000) (by omega) (hf.boxH h hm x hx))
   have h60:=w7a (l:=h) (by have:=hmany.2; omega)
   have hbl:=y86 hb2
   have hbb:∀ x∈b,z0m (-5000) 5000 x:=fun x hx=>by
    obtain ⟨a1,a2,a3,a4⟩:=hf.boxH h hm x (z4z hb2 x hx)
    exact ⟨by omega,by omega,by omega,by omega⟩
   obtain ⟨c,hc1,hc2,hc3⟩:=v6f (hf.take i).cyc hb2 (hf.take i).cbox hbb (by omega) (by have:=hmany.2; omega)
   have e1:z1i l (hs.take (i+1))=z20 (z1i l (hs.take i)) h:=by rw [z59 hh,y12]
   have hc:=y9h (hc3 _ z6j)
   have c1:(i:Int)<(hs.length:Int):=by omega
   have c2:(i:Int)≥0:=by omega
   have hw:=z04 (i:=i) (by omega)
   refine ⟨i+1,?_,⟨by omega,?_⟩,by omega⟩
   ·rw [e1,hc]
    have hb1':g59 it0 std (z0d h,())=some (z0d b,()):=hb1
    have h60':g60 it0 std (z0d h,())=some (z0d h,()):=h60
    have hc1':g80 it0 std (z0d (z1g (z1i l (hs.take i))),z0d b,())=some (z0d c,()):=hc1
    simp only [x4k,it0_eq,z0u,z0v,x2d,z67,c1,c2,z0b,hw,gh,h60',hb1',hc1']
   ·rw [e1,hc]
    have:=hmany.2
    omega
  ·right
   have:i=hs.length:=by omega
   subst this
   have hn:¬ ((hs.length:Int)<(hs.length:Int)):=by omega
   refine ⟨_,?_,rfl,?_⟩
   ·simp only [x4k,z0u,z0v,hn,List.take_length]
   ·have:=hf.few
    rw [List.take_length] at hcl; omega) 0 ⟨Nat.zero_le _,by
   simp only [List.take_zero]
   have:=y86 (z2f hf.ne)
   have:=hf.many.2
   show (z1g l).length≤_
   omega⟩
 obtain ⟨r,h1,h2,h3⟩:=key
 subst h2
 exact ⟨h1,h3⟩
theorem w2q {l:List Pt} {hs:List (List Pt)} (h:z80 l hs≠0):G48 std (z0d l,z1s hs,())=some (.inl (z80 l hs,())):=by
 unfold G48
 have h18:g18 it0 std (z0d l,z1s hs,())=some (z80 l hs,()):=w7i l hs
 simp only [g48,z0u,z0v,h18,h,not_false_eq_true]
theorem w2p {l:List Pt} {hs:List (List Pt)} (hf:z49 l hs):G48 std (z0d l,z1s hs,())=some (.inr (z0d l,z1s hs,z0d (z1g (z1i l hs)),0,())):=by
 unfold G48
 have h18:g18 it0 std (z0d l,z1s hs,())=some (z80 l hs,()):=w7i l hs
 rw [z3p.2 hf] at h18
 have hm:=hf.many
 obtain ⟨b,hb1,hb2⟩:=w7b (l:=l) hm.1 hm.2 (fun x hx=>by obtain ⟨a1,a2,a3,a4⟩:=hf.box x hx; exact ⟨by omega,by omega,by omega,by omega⟩)
 rw [←y9h hb2] at hb1
 have hb1':g59 it0 std (z0d l,())=some (z0d (z1g l),()):=hb1
 have h60:g60 it0 std (z0d l,())=some (z0d l,()):=w7a (l:=l) (by have:=hm.2; omega)
 have hl:=(y27 hf).1
 simp only [g48,it0_eq,z0u,z0v,y1u,h18,h60,hb1',hl,not_true]
theorem z5y {l:List Pt} {hs:List (List Pt)} (hf:z49 l hs):(z1g (z1i l hs)).length≤60:=(y27 hf).2
end Go.Am
end
section
namespace M06
theorem x90 {S:List Pt} {a b x:Pt} (h:Nx S a b) (hx:x∈S) (z:cr a b x=0) (hf:far a b≤far a x):x=b:=by
 have h0:=(h.2.2 x hx).2 z
 have d1:=(y5g h.2.1 z h0.1).1 h0.2
 have hne:sb b a≠(0,0):=fun e=>h.2.1 (z1a.1 e).symm
 have hp:=z0x hne
 have hl:=lag (sb b a) (sb x a)
 have z':crs (sb b a) (sb x a)=0:=z
 rw [z'] at hl
 have e1:far a x=dt (sb x a) (sb x a):=by simp only [far,dt,sb]; grind
 have e2:far a b=dt (sb b a) (sb b a):=by simp only [far,dt,sb]; grind
 have e3:dt (sb b a) (sb b x)=dt (sb b a) (sb b a) - dt (sb b a) (sb x a):=by simp only [dt,sb]; grind
 have e4:dt (sb b x) (sb b x)=dt (sb b a) (sb b a)+dt (sb x a) (sb x a) - 2*dt (sb b a) (sb x a):=by simp only [dt,sb]; grind
 have hm:=h0.1
 refine Classical.byContradiction fun hn=>?_
 have hq:=z0x (u:=sb b x) (fun e=>hn (z1a.1 e).symm)
 rw [e1,e2] at hf
 generalize dt (sb b a) (sb x a)=m at*
 generalize dt (sb b a) (sb b a)=n at*
 generalize dt (sb x a) (sb x a)=k at*
 have h1:n*n≤m*m:=by
  have:=Int.mul_le_mul_of_nonneg_left hf (Int.le_of_lt hp)
  omega
 have h2:=y8t hm h1
 have h3:m=n:=by omega
 subst h3
 have:m*k=m*m:=by omega
 have hk:k=m:=by
  have h5:m*(k - m)=0:=by rw [Int.mul_sub]; omega
  rcases Int.mul_eq_zero.1 h5 with h|h<;>omega
 omega
theorem x9q {S:List Pt}:∀ {l:List Pt} {i:Nat} {a b:Pt},Pth S l→l[i]?=some a→l[i+1]?=some b→Nx S a b
 |[],i,a,b,_,h,_=>by simp at h
 |[x],i,a,b,_,_,h=>by simp at h
 |x::y::l,0,a,b,h,h1,h2=>by
  simp at h1 h2; subst h1; subst h2; exact h.1
 |x::y::l,i+1,a,b,h,h1,h2=>x9q (l:=y::l) (i:=i) h.2 (by simpa using h1) (by simpa using h2)
theorem z7h {S c:List Pt} (h:Cyc S c) (h2:2≤c.length) {i:Nat} {a b:Pt} (ha:c[i]?=some a) (hb:c[(i+1) % c.length]?=some b):Nx S a b:=by
 match c,h2,h with
 |x::y::r,_,h=>
  have hp:Pth S (x::y::r++[x]):=by
   rcases h.2.2 with ⟨h,_⟩|⟨_,h,_⟩
   ·cases h
   ·exact h
  have hi:i<(x::y::r).length:=(List.getElem?_eq_some_iff.1 ha).1
  refine x9q hp (by rw [List.getElem?_append_left hi]; exact ha) ?_
  by_cases hl:i+1<(x::y::r).length
  ·rw [List.getElem?_append_left hl]
   rwa [Nat.mod_eq_of_lt hl] at hb
  ·have he:i+1=(x::y::r).length:=by omega
   rw [he,Nat.mod_self] at hb
   rw [List.getElem?_append_right (by omega),he]
   simp at hb⊢; exact hb
theorem y2r {S c:List Pt} (h:Cyc S c) (h2:c.length≤1):∃ a,c=[a]∧a∈S∧∀ x∈S,x=a:=by
 match c,h2,h with
 |[a],_,h=>
  refine ⟨a,rfl,h.1,?_⟩
  rcases h.2.2 with ⟨_,h⟩|⟨h,_⟩
  ·exact h
  ·exact absurd rfl h
end M06
end
section
namespace Go.Am
open M06
theorem v6d {a b c:Pt} (ha:z1e a) (hb:z1e b) (hc:z1e c):G90 std (a.1,a.2,b.1,b.2,c.1,c.2,())=some (cr a b c,()):=by
 obtain ⟨w1,w2,w3,w4,w5,w6,w7⟩:=y4t ha hb hc
 unfold G90
 simp only [z0u,z0v,z0k,z08,w1,w2,w3,w4,w5,w6,w7]
theorem w06 {a b:Pt} (ha:z1e a) (hb:z1e b):IntKind.i64.wrap (a.1 - b.1)=a.1 - b.1∧IntKind.i64.wrap (a.2 - b.2)=a.2 - b.2∧
  IntKind.i64.wrap ((a.1 - b.1)*(a.1 - b.1))=(a.1 - b.1)*(a.1 - b.1)∧IntKind.i64.wrap ((a.2 - b.2)*(a.2 - b.2))=(a.2 - b.2)*(a.2 - b.2)∧
  IntKind.i64.wrap ((a.1 - b.1)*(a.1 - b.1)+(a.2 - b.2)*(a.2 - b.2))=far a b:=by
 obtain ⟨a1,a2,a3,a4⟩:=ha
 obtain ⟨b1,b2,b3,b4⟩:=hb
 have big:∀ {x:Int}, -2097152≤x→x≤2097152→0≤x*x∧x*x≤4398046511104:=by
  intro x h1 h2
  refine ⟨sqn x,?_⟩
  have e1:=Int.mul_nonneg (show 0≤2097152 - x by omega) (show 0≤2097152+x by omega)
  simp only [Int.sub_mul,Int.mul_add] at e1
  omega
 have m1:=big (x:=a.1 - b.1) (by omega) (by omega)
 have m2:=big (x:=a.2 - b.2) (by omega) (by omega)
 refine ⟨z00 _ (by omega) (by omega),z00 _ (by omega) (by omega),z00 _ (by omega) (by omega),z00 _ (by omega) (by omega),?_⟩
 rw [z00 _ (by omega) (by omega)]; rfl
theorem w65 {a b:Pt} (ha:z1e a) (hb:z1e b):G91 std (a.1,a.2,b.1,b.2,())=some (far a b,()):=by
 obtain ⟨w1,w2,w3,w4,w5⟩:=w06 ha hb
 unfold G91
 simp only [z0u,z0v,z0k,z08,z0b,w1,w2,w3,w4,w5]
theorem x7w {l:List Pt} (hn:l.length≤100000) (hne:l≠[]):
  ∃ f,f∈l∧(∀ x∈l,Le f x)∧z4n (x2s std) ((l.getD 0 (0,0)).1,(l.getD 0 (0,0)).2,z0d l,(1:Int),())=some (f.1,f.2,z0d l,()):=by
 have hl1:1≤l.length:=List.length_pos_iff.2 hne
 have key:=z34 (b:=x2s std) l.length (fun (f:Pt) (i:Nat)=>(f.1,f.2,z0d l,(i:Int),())) (fun f i=>f∈l∧∀ x∈l.take i,Le f x) (fun r=>∃ f,f∈l∧(∀ x∈l,Le f x)∧r=(f.1,f.2,z0d l,())) (fun f i hi ⟨h1,h2⟩=>by
  left
  obtain ⟨p,hp⟩:=z0l hi
  have gp:=z0w hp
  have hpl:=List.mem_of_getElem? hp
  have c1:(i:Int)<(l.length:Int):=by omega
  have c2:(i:Int)≥0:=by omega
  have hw:=z04 (i:=i) (by omega)
  have next:∀ g,(Le g f)→Le g p→∀ x∈l.take (i+1),Le g x:=by
   intro g hg hgp x hx
   rw [z0q hp] at hx
   rcases List.mem_append.1 hx with hx|hx
   ·exact hg.trans (h2 x hx)
   ·simp at hx; subst hx; exact hgp
  by_cases k1:p.1<f.1
  ·refine ⟨p,?_,hpl,next p (.inr ?_) (.inl rfl)⟩
   ·simp only [x2s,z0u,z0v,z0g,z0z,z0y,z1f,z0i,z0c,z0b,hw,c1,c2,gp,k1]
   ·simp only [Lt,Pos,sb]; omega
  ·by_cases k2:p.1=f.1
   ·by_cases k3:p.2<f.2
    ·refine ⟨p,?_,hpl,next p (.inr ?_) (.inl rfl)⟩
     ·simp only [x2s,z0u,z0v,z0g,z0z,z0y,z1f,z0i,z0c,z0b,hw,c1,c2,gp,k2,k3,Int.lt_irrefl]
     ·simp only [Lt,Pos,sb]; omega
    ·refine ⟨f,?_,h1,next f (.inl rfl) ?_⟩
     ·simp only [x2s,z0u,z0v,z0g,z0z,z0y,z1f,z0i,z0c,z0b,hw,c1,c2,gp,k2,k3,Int.lt_irrefl]
     ·rcases x1o f p with h|h|h
      ·exact .inr h
      ·exact .inl h
      ·exfalso; simp only [Lt,Pos,sb] at h; omega
   ·refine ⟨f,?_,h1,next f (.inl rfl) ?_⟩
    ·simp only [x2s,z0u,z0v,z0g,z0z,z0y,z1f,z0i,z0c,z0b,hw,c1,c2,gp,k1,k2]
    ·right; simp only [Lt,Pos,sb]; omega) (fun f ⟨h1,h2⟩=>by
  have hn:¬ ((l.length:Int)<(l.length:Int)):=by omega
  rw [List.take_length] at h2
  exact ⟨_,by simp only [x2s,z0u,z0v,z0c,hn],f,h1,h2,rfl⟩) (l.getD 0 (0,0)) 1 hl1 ⟨z5v _ hl1,by
   match l,hne with
   |a::l,_=>intro x hx; simp at hx; subst hx; exact .inl rfl⟩
 obtain ⟨r,h1,f,h2,h3,h4⟩:=key
 exact ⟨f,h2,h3,by rw [←h4]; exact h1⟩
theorem x92 {l:List Pt} (hn:l.length≤100000) (hs:∀ x∈l,z1e x) {a b:Pt} (ha:a∈l) (hb:Nx l a b∨(b=a∧∀ x∈l,x=a)) (out:List (List D)) (f1 f2:Int) (off len:Nat):
  z4n (z5k std) (out,f1,f2,a.1,a.2,a.1,a.2,z0d l,off,len,(0:Int),())=some (out,f1,f2,a.1,a.2,b.1,b.2,z0d l,off,len,()):=by
 have key:=z34 (b:=z5k std) l.length (fun (n:Pt) (i:Nat)=>(out,f1,f2,a.1,a.2,n.1,n.2,z0d l,off,len,(i:Int),())) (fun n i=>n∈l∧(Nx l a b→b∈l.take i→n=b)) (fun r=>r=(out,f1,f2,a.1,a.2,b.1,b.2,z0d l,off,len,())) (fun n i hi ⟨h1,h2⟩=>by
  left
  obtain ⟨x,hx⟩:=z0l hi
  have gx:=z0w hx
  have hxl:=List.mem_of_getElem? hx
  have c1:(i:Int)<(l.length:Int):=by omega
  have c2:(i:Int)≥0:=by omega
  have hw:=z04 (i:=i) (by omega)
  have tk:b∈l.take (i+1)→b∈l.take i∨b=x:=fun h=>by
   rw [z0q hx] at h
   rcases List.mem_append.1 h with h|h
   ·exact .inl h
   ·exact .inr (by simpa using h)
  have e90:=v6d (hs a ha) (hs n h1) (hs x hxl)
  have e91:=w65 (hs a ha) (hs x hxl)
  have e92:=w65 (hs a ha) (hs n h1)
  by_cases k1:x=a
  ·subst k1
   refine ⟨n,?_,h1,fun hb hm=>?_⟩
   ·simp only [z5k,z0u,z0v,z0g,z0z,z0y,z1f,z0i,z0c,z0b,hw,c1,c2,gx]
   ·rcases tk hm with h|h
    ·exact h2 hb h
    ·exact absurd h.symm hb.2.1
  ·have k1':¬ (x.1=a.1∧x.2=a.2):=fun e=>k1 (Prod.ext e.1 e.2)
   have red:∀ r:Pt,(x.1=a.1→¬ x.2=a.2→z5k std (out,f1,f2,a.1,a.2,n.1,n.2,z0d l,off,len,(i:Int),())=some (.inl (out,f1,f2,a.1,a.2,r.1,r.2,z0d l,off,len,((i+1:Nat):Int),())))→(¬ x.1=a.1→z5k std (out,f1,f2,a.1,a.2,n.1,n.2,z0d l,off,len,(i:Int),())=some (.inl (out,f1,f2,a.1,a.2,r.1,r.2,z0d l,off,len,((i+1:Nat):Int),())))→z5k std (out,f1,f2,a.1,a.2,n.1,n.2,z0d l,off,len,(i:Int),())=some (.inl (out,f1,f2,a.1,a.2,r.1,r.2,z0d l,off,len,((i+1:Nat):Int),())):=by
    intro r p q
    by_cases k2:x.1=a.1
    ·exact p k2 (fun e=>k1' ⟨k2,e⟩)
    ·exact q k2
   by_cases k2:n=a
   ·subst k2
    refine ⟨x,?_,hxl,fun hb hm=>?_⟩
    ·refine red x (fun q1 q2=>?_) (fun q1=>?_)
     ·simp only [z5k,z0u,z0v,z0g,z0z,z0y,z1f,z0i,z0c,z0b,hw,c1,c2,gx,eq_true q1,q2,e90]
     ·simp only [z5k,z0u,z0v,z0g,z0z,z0y,z1f,z0i,z0c,z0b,hw,c1,c2,gx,q1,e90]
    ·rcases tk hm with h|h
     ·exact absurd (h2 hb h) hb.2.1
     ·exact h.symm
   ·have k2':¬ (n.1=a.1∧n.2=a.2):=fun e=>k2 (Prod.ext e.1 e.2)
    have red2:∀ G:Prop,(n.1=a.1→¬ n.2=a.2→G)→(¬ n.1=a.1→G)→G:=by
     intro G p q
     by_cases k:n.1=a.1
     ·exact p k (fun e=>k2' ⟨k,e⟩)
     ·exact q k
    by_cases k3:cr a n x<0
    ·refine ⟨x,?_,hxl,fun hb hm=>?_⟩
     ·refine red x (fun q1 q2=>?_) (fun q1=>?_)<;>refine red2 _ (fun q3 q4=>?_) (fun q3=>?_)
      ·simp only [z5k,z0u,z0v,z0g,z0z,z0y,z1f,z0i,z0c,z0b,hw,c1,c2,gx,eq_true q1,q2,eq_true q3,q4,e90,e91,e92,k3]
      ·simp only [z5k,z0u,z0v,z0g,z0z,z0y,z1f,z0i,z0c,z0b,hw,c1,c2,gx,eq_true q1,q2,q3,e90,e91,e92,k3]
      ·simp only [z5k,z0u,z0v,z0g,z0z,z0y,z1f,z0i,z0c,z0b,hw,c1,c2,gx,q1,eq_true q3,q4,e90,e91,e92,k3]
      ·simp only [z5k,z0u,z0v,z0g,z0z,z0y,z1f,z0i,z0c,z0b,hw,c1,c2,gx,q1,q3,e90,e91,e92,k3]
     ·rcases tk hm with h|h
      ·have:=h2 hb h
       subst this
       have:=(hb.2.2 x hxl).1
       omega
      ·exact h.symm
    ·by_cases k4:cr a n x=0
     ·by_cases k5:far a x>far a n
      ·refine ⟨x,?_,hxl,fun hb hm=>?_⟩
       ·refine red x (fun q1 q2=>?_) (fun q1=>?_)<;>refine red2 _ (fun q3 q4=>?_) (fun q3=>?_)
        ·simp only [z5k,z0u,z0v,z0g,z0z,z0y,z1f,z0i,z0c,z0b,hw,c1,c2,gx,eq_true q1,q2,eq_true q3,q4,e90,e91,e92,k3,k4,k5,Int.lt_irrefl]
        ·simp only [z5k,z0u,z0v,z0g,z0z,z0y,z1f,z0i,z0c,z0b,hw,c1,c2,gx,eq_true q1,q2,q3,e90,e91,e92,k3,k4,k5,Int.lt_irrefl]
        ·simp only [z5k,z0u,z0v,z0g,z0z,z0y,z1f,z0i,z0c,z0b,hw,c1,c2,gx,q1,eq_true q3,q4,e90,e91,e92,k3,k4,k5,Int.lt_irrefl]
        ·simp only [z5k,z0u,z0v,z0g,z0z,z0y,z1f,z0i,z0c,z0b,hw,c1,c2,gx,q1,q3,e90,e91,e92,k3,k4,k5,Int.lt_irrefl]
       ·rcases tk hm with h|h
        ·have:=h2 hb h
         subst this
         have:=((hb.2.2 x hxl).2 k4).2
         omega
        ·exact h.symm
      ·refine ⟨n,?_,h1,fun hb hm=>?_⟩
       ·refine red n (fun q1 q2=>?_) (fun q1=>?_)<;>refine red2 _ (fun q3 q4=>?_) (fun q3=>?_)
        ·simp only [z5k,z0u,z0v,z0g,z0z,z0y,z1f,z0i,z0c,z0b,hw,c1,c2,gx,eq_true q1,q2,eq_true q3,q4,e90,e91,e92,k3,k4,k5,Int.lt_irrefl]
        ·simp only [z5k,z0u,z0v,z0g,z0z,z0y,z1f,z0i,z0c,z0b,hw,c1,c2,gx,eq_true q1,q2,q3,e90,e91,e92,k3,k4,k5,Int.lt_irrefl]
        ·simp only [z5k,z0u,z0v,z0g,z0z,z0y,z1f,z0i,z0c,z0b,hw,c1,c2,gx,q1,eq_true q3,q4,e90,e91,e92,k3,k4,k5,Int.lt_irrefl]
        ·simp only [z5k,z0u,z0v,z0g,z0z,z0y,z1f,z0i,z0c,z0b,hw,c1,c2,gx,q1,q3,e90,e91,e92,k3,k4,k5,Int.lt_irrefl]
       ·rcases tk hm with h|h
        ·exact h2 hb h
        ·subst h
         have z:cr a b n=0:=by rw [y00]; omega
         exact x90 hb h1 z (by omega)
     ·refine ⟨n,?_,h1,fun hb hm=>?_⟩
      ·refine red n (fun q1 q2=>?_) (fun q1=>?_)<;>refine red2 _ (fun q3 q4=>?_) (fun q3=>?_)
       ·simp only [z5k,z0u,z0v,z0g,z0z,z0y,z1f,z0i,z0c,z0b,hw,c1,c2,gx,eq_true q1,q2,eq_true q3,q4,e90,e91,e92,k3,k4]
       ·simp only [z5k,z0u,z0v,z0g,z0z,z0y,z1f,z0i,z0c,z0b,hw,c1,c2,gx,eq_true q1,q2,q3,e90,e91,e92,k3,k4]
       ·simp only [z5k,z0u,z0v,z0g,z0z,z0y,z1f,z0i,z0c,z0b,hw,c1,c2,gx,q1,eq_true q3,q4,e90,e91,e92,k3,k4]
       ·simp only [z5k,z0u,z0v,z0g,z0z,z0y,z1f,z0i,z0c,z0b,hw,c1,c2,gx,q1,q3,e90,e91,e92,k3,k4]
      ·rcases tk hm with h|h
       ·exact h2 hb h
       ·subst h
        have:=(hb.2.2 n h1).1
        have:=y00 a b n
        omega) (fun n ⟨h1,h2⟩=>by
  have hnn:¬ ((l.length:Int)<(l.length:Int)):=by omega
  rw [List.take_length] at h2
  refine ⟨(out,f1,f2,a.1,a.2,n.1,n.2,z0d l,off,len,()),by simp only [z5k,z0u,z0v,z0c,hnn],?_⟩
  have:n=b:=by
   rcases hb with hb|⟨hb,hall⟩
   ·exact h2 hb hb.1
   ·rw [hb]; exact hall n h1
  rw [this]) a 0 (Nat.zero_le _) ⟨ha,fun _ hm=>by simp at hm⟩
 obtain ⟨r,h1,h2⟩:=key
 rw [←h2]; exact h1
theorem x1i {α:Type} {l:List α} (h:l.Nodup) {i j:Nat} {a:α} (hi:l[i]?=some a) (hj:l[j]?=some a):i=j:=by
 obtain ⟨i1,i2⟩:=List.getElem?_eq_some_iff.1 hi
 obtain ⟨j1,j2⟩:=List.getElem?_eq_some_iff.1 hj
 have hp:=List.pairwise_iff_getElem.1 h
 rcases Nat.lt_trichotomy i j with k|k|k
 ·exact absurd (i2.trans j2.symm) (hp i j i1 j1 k)
 ·exact k
 ·exact absurd (j2.trans i2.symm) (hp j i j1 i1 k)
theorem w2o {l:List Pt} (hn:l.length≤100000) (hne:l≠[]) (hs:∀ x∈l,z1e x):G61 std (z0d l,())=some (z0d (z1g l),()):=by
 have hcy:=z2f hne
 have hcl:=y86 hcy
 have hcm:=z4z hcy
 have hcn:=y1z hcy
 generalize hc:z1g l=c at hcy hcl hcm hcn
 obtain ⟨f,hf1,hf2,hfl⟩:=x7w hn hne
 have hl1:1≤l.length:=List.length_pos_iff.2 hne
 have hc0:c[0]?=some f:=by
  match c,hcy with
  |c0::r,hcy=>rw [y5b (hf2 _ hcy.1) (hcy.2.1 _ hf1)]; rfl
 have hc1:1≤c.length:=(List.getElem?_eq_some_iff.1 hc0).1
 have key:=z3k (b:=x4i it0 std) (fun (i:Nat)=>(z0d (c.take (i+1)),f.1,f.2,z0d l,(0:Nat),i+1,())) (fun i=>i<c.length) (fun i=>c.length - i) (fun _=>(z0d c,(0:Nat),c.length,())) (fun i hi=>by
  obtain ⟨a,ha⟩:=z0l hi
  obtain ⟨b,hb⟩:=z0l (l:=c) (i:=(i+1) % c.length) (Nat.mod_lt _ (by omega))
  have hal:=hcm a (List.mem_of_getElem? ha)
  have hbl:=hcm b (List.mem_of_getElem? hb)
  have hnx:Nx l a b∨(b=a∧∀ x∈l,x=a):=by
   by_cases h2:2≤c.length
   ·exact .inl (z7h hcy h2 ha hb)
   ·obtain ⟨x,hx,_,hall⟩:=y2r hcy (by omega)
    exact .inr ⟨by rw [hall a hal,hall b hbl],fun y hy=>by rw [hall a hal,hall y hy]⟩
  have hin:=x92 hn hs hal hnx (z0d (c.take (i+1))) f.1 f.2 0 (i+1)
  have hg:(z0d (c.take (i+1)))[i]?=some (eP a):=z0w (by rw [List.getElem?_take_of_lt (by omega)]; exact ha)
  have v1:IntKind.i64.wrap (((i+1:Nat):Int) - 1)=(i:Int):=by rw [z00]<;>omega
  have c1:(i:Int)≥0:=by omega
  have c2:(i:Int)<((i+1:Nat):Int):=by omega
  have htl:(c.take (i+1)).length=i+1:=by simp; omega
  by_cases hend:i+1=c.length
  ·right
   have hbf:b=f:=by rw [hend,Nat.mod_self,hc0] at hb; exact (Option.some.inj hb).symm
   subst hbf
   have hfin:c.take (i+1)=c:=by rw [hend,List.take_length]
   rw [hfin] at hin hg⊢
   rw [hend] at hin⊢
   rw [hend] at v1 c2
   simp only [x4i,it0_eq,z0u,z0v,z0g,z0z,z0y,z1f,z0i,z0c,z0k,v1,c1,c2,hg,hin,hend]
  ·left
   have hb':c[i+1]?=some b:=by rwa [Nat.mod_eq_of_lt (by omega)] at hb
   have hba:¬ b=a:=fun e=>by
    subst e
    have:=x1i hcn ha hb'
    omega
   have hbf:¬ b=f:=fun e=>by
    subst e
    have:=x1i hcn hc0 hb'
    omega
   have htk:(z0d (c.take (i+1))).take (i+1)=z0d (c.take (i+1)):=by rw [List.take_of_length_le (by rw [z0c]; simp; omega)]
   have hap:z0d (c.take (i+1))++[eP b]=z0d (c.take (i+1+1)):=by rw [z0q hb']; simp [z0d]
   have htl2:(c.take (i+1+1)).length=i+1+1:=by simp; omega
   have hap2:(c.take (i+1+1)).length≤1000000:=by omega
   have hap3:i+1+1≤1000000:=by omega
   refine ⟨i+1,?_,by omega,by omega,rfl⟩
   have hba':¬ (b.1=a.1∧b.2=a.2):=fun e=>hba (Prod.ext e.1 e.2)
   have hbf':¬ (b.1=f.1∧b.2=f.2):=fun e=>hbf (Prod.ext e.1 e.2)
   have e1:(if b.1=a.1 then if b.2=a.2 then true else false else false)=false:=by
    by_cases q1:b.1=a.1
    ·rw [if_pos q1,if_neg (fun e=>hba' ⟨q1,e⟩)]
    ·rw [if_neg q1]
   by_cases q1:b.1=f.1
   ·have q2:¬ b.2=f.2:=fun e=>hbf' ⟨q1,e⟩
    simp only [x4i,it0_eq,z0u,z0v,z0g,z0z,z0y,z1f,z0i,z0c,z0k,v1,c1,c2,hg,hin,eq_true q1,q2,e1,htl,htl2,htk,hap,hap3,List.drop_zero,List.take_succ_cons,List.take_zero,Nat.le_refl]
   ·simp only [x4i,it0_eq,z0u,z0v,z0g,z0z,z0y,z1f,z0i,z0c,z0k,v1,c1,c2,hg,hin,q1,e1,htl,htl2,htk,hap,hap3,List.drop_zero,List.take_succ_cons,List.take_zero,Nat.le_refl]) 0 (by omega)
 have g0:∃ p,l[0]?=some p:=z0l (by omega)
 obtain ⟨p0,hp0⟩:=g0
 have gp0:=z0w hp0
 have hd:l.getD 0 (0,0)=p0:=by simp [List.getD_eq_getElem?_getD,hp0]
 rw [hd] at hfl
 have e1:z0d (c.take 1)=[eP f]:=by
  match c,hc0 with
  |x::r,h=>cases h; rfl
 simp only [Nat.zero_add,e1] at key
 unfold G61
 have z0:(0:Int).toNat=0:=rfl
 have htk:(z0d c).take c.length=z0d c:=by rw [List.take_of_length_le (by rw [z0c]; omega)]
 simp only [g61,it0_eq,z0u,z0v,z0g,z0z,z0y,z1f,z0i,z0c,z0,gp0,hfl,key,Nat.le_refl,List.drop_zero,htk]
end Go.Am
end
section
namespace Go.Am
open M06
theorem x6u {A B:List Pt} {k:Nat} {a:Pt} (h:A[k]?=some a):z20 (A.take (k+1)) B=z20 (A.take k) B++B.map (ad a):=by
 rw [z0q h]
 simp [z20]
theorem x0h (A B:List Pt):(z20 A B).length=A.length*B.length:=by
 induction A with
 |nil=>simp [z20]
 |cons a A ih=>
  have:z20 (a::A) B=B.map (ad a)++z20 A B:=rfl
  rw [this,List.length_append,ih,List.length_map,List.length_cons,Nat.add_mul,Nat.one_mul,Nat.add_comm]
theorem w2h {x y:Pt} (hx:z1e x) (hy:z1e y):IntKind.i64.wrap (x.1+y.1)=(ad x y).1∧IntKind.i64.wrap (x.2+y.2)=(ad x y).2:=by
 obtain ⟨x1,x2,x3,x4⟩:=hx
 obtain ⟨y1,y2,y3,y4⟩:=hy
 exact ⟨z00 _ (by omega) (by omega),z00 _ (by omega) (by omega)⟩
theorem w7q {b:List Pt} {a:Pt} {cur:List Pt} {k:Nat} (ha:cur[k]?=some a) (hb:∀ x∈b,z1e x) (hsa:z1e a) (hk:k≤1000) (hbl:b.length≤100) (nx:List Pt) (hnl:nx.length≤100000) (l H out:List (List D)):
  z4n (w2c std) ([[D.list false 2 (z0d b)]],z0d nx,l,H,out,z0d cur,(0:Int),(k:Int),(0:Int),())=some ([[D.list false 2 (z0d b)]],z0d (nx++b.map (ad a)),l,H,out,z0d cur,(0:Int),(k:Int),()):=by
 generalize hL:[[D.list false 2 (z0d b)]]=L
 have r0:std.rdL L 0 0=z0d b:=by subst hL; rfl
 have k0:std.rowOk L 0 [CK.list 2]=true:=by subst hL; rfl
 have hl2:L.length=1:=by subst hL; rfl
 have e1:(0:Int).toNat=0:=rfl
 have key:=z3k (b:=w2c std) (fun (i:Nat)=>(L,z0d (nx++(b.take i).map (ad a)),l,H,out,z0d cur,(0:Int),(k:Int),(i:Int),())) (fun i=>i≤b.length) (fun i=>b.length - i) (fun _=>(L,z0d (nx++b.map (ad a)),l,H,out,z0d cur,(0:Int),(k:Int),())) (fun i hi=>by
  have c0:(0:Int)≥0:=by omega
  have c01:(0:Int)<((1:Nat):Int):=by omega
  by_cases hlt:i<b.length
  ·left
   obtain ⟨p,hp⟩:=z0l hlt
   have gp:=z0w hp
   have ga:=z0w ha
   obtain ⟨d1,d2⟩:=w2h hsa (hb p (List.mem_of_getElem? hp))
   have c1:(i:Int)<(b.length:Int):=by omega
   have c2:(i:Int)≥0:=by omega
   have c3:(k:Int)≥0:=by omega
   have hw:=z04 (i:=i) (by omega)
   have htk:(z0d (nx++(b.take i).map (ad a))).take (nx++(b.take i).map (ad a)).length=z0d (nx++(b.take i).map (ad a)):=by rw [List.take_of_length_le (by rw [z0c]; omega)]
   have hap:z0d (nx++(b.take i).map (ad a))++[eP (ad a p)]=z0d (nx++(b.take (i+1)).map (ad a)):=by
    rw [z0q hp]; simp [z0d]
   have hl1:(nx++(b.take (i+1)).map (ad a)).length≤1000000:=by simp; omega
   have hal:(nx++(b.take i).map (ad a)).length+1=(nx++(b.take (i+1)).map (ad a)).length:=by simp; omega
   refine ⟨i+1,?_,by omega,by omega,rfl⟩
   have r0':std.rdL L (std.add 0 (std.nat (0:Int))) 0=z0d b:=r0
   have k0':std.rowOk L (std.add 0 (std.nat (0:Int))) [CK.list 2]=true:=k0
   simp only [w2c,r0',k0',z2a,z3x,z2w,z24,z3s,z2t,z1k,hl2,z4a,z3q,z5j,c0,c01,z0c,c1,c2,decide_true,if_true]
   simp only [z0u,z0v,z0g,z0z,z0y,z1f,z0i,z0c,z0b,hw,c1,c2,c3,gp,ga,d1,d2,htk,hap,hl1,hal,List.drop_zero,List.take_succ_cons,List.take_zero,Nat.le_refl]
  ·right
   have:i=b.length:=by omega
   subst this
   have hn:¬ ((b.length:Int)<(b.length:Int)):=by omega
   have r0':std.rdL L (std.add 0 (std.nat (0:Int))) 0=z0d b:=r0
   have k0':std.rowOk L (std.add 0 (std.nat (0:Int))) [CK.list 2]=true:=k0
   simp only [w2c,r0',k0',z2a,z3x,z2w,z24,z3s,z2t,z1k,hl2,z4a,z3q,z5j,c0,c01,z0c,hn,decide_true,decide_false,if_true,if_false,Bool.false_eq_true,List.take_length]
   simp only [z0u,z0v,z0c,hl2]) 0 (Nat.zero_le _)
 simpa using key
theorem w29 {b cur:List Pt} (hb:∀ x∈b,z1e x) (hc:∀ x∈cur,z1e x) (hcl:cur.length≤100) (hbl:b.length≤100) (l H out:List (List D)):
  z4n (x4j it0 std) ([[D.list false 2 (z0d b)]],[],l,H,out,z0d cur,(0:Int),(0:Int),())=some ([[D.list false 2 (z0d b)]],z0d (z20 cur b),l,H,out,(0:Int),()):=by
 have key:=z3k (b:=x4j it0 std) (fun (k:Nat)=>([[D.list false 2 (z0d b)]],z0d (z20 (cur.take k) b),l,H,out,z0d cur,(0:Int),(k:Int),())) (fun k=>k≤cur.length) (fun k=>cur.length - k) (fun _=>([[D.list false 2 (z0d b)]],z0d (z20 cur b),l,H,out,(0:Int),())) (fun k hk=>by
  by_cases hlt:k<cur.length
  ·left
   obtain ⟨a,ha⟩:=z0l hlt
   have ga:=z0w ha
   have hsl:(z20 (cur.take k) b).length≤100000:=by
    rw [x0h]
    have h1:(cur.take k).length≤100:=by simp; omega
    have:=Nat.mul_le_mul h1 hbl
    omega
   have hrow:=w7q ha hb (hc a (List.mem_of_getElem? ha)) (by omega) hbl (z20 (cur.take k) b) hsl l H out
   rw [←x6u ha] at hrow
   have c1:(k:Int)<(cur.length:Int):=by omega
   have c2:(k:Int)≥0:=by omega
   have hw:=z04 (i:=k) (by omega)
   refine ⟨k+1,?_,by omega,by omega,rfl⟩
   simp only [x4j,it0_eq,hrow,z0u,z0v,z0g,z0z,z0y,z1f,z0i,z0c,z0b,hw,c1,c2,ga]
  ·right
   have:k=cur.length:=by omega
   subst this
   have hn:¬ ((cur.length:Int)<(cur.length:Int)):=by omega
   simp only [x4j,z0u,z0v,z0c,hn,List.take_length]) 0 (Nat.zero_le _)
 simpa [z20,z0d] using key
theorem w7r {b cur:List Pt} (hb:∀ x∈b,z1e x) (hc:∀ x∈cur,z1e x) (hcl:cur.length≤100) (hbl:b.length≤100) (l H:List (List D)):
  z4n (x2m it0 std) ([[D.list false 2 (z0d b)]],l,H,z0d cur,z0d cur,(0:Int),())=some ([[D.list false 2 (z0d b)]],l,H,z0d (z20 cur b),()):=by
 have hl2:[[D.list false 2 (z0d b)]].length=1:=rfl
 have v1:IntKind.i64.wrap ((0:Int)+1)=1:=by decide
 have hr:=w29 hb hc hcl hbl l H (z0d cur)
 have htk:(z0d (z20 cur b)).take (z20 cur b).length=z0d (z20 cur b):=by rw [List.take_of_length_le (by rw [z0c]; omega)]
 have t0:x2m it0 std ([[D.list false 2 (z0d b)]],l,H,z0d cur,z0d cur,(0:Int),())=some (.inl ([[D.list false 2 (z0d b)]],l,H,z0d cur,z0d (z20 cur b),(1:Int),())):=by
  have c1:(0:Int)<((1:Nat):Int):=by omega
  have c2:(0:Int)≥0:=by omega
  simp only [x2m,it0_eq,hr,z2a,z3x,z2w,z24,z3s,z2t,z1k,z3q,x88,z4s,z8e,Nat.zero_add,hl2,c1,c2,decide_true,if_true,Option.bind_some,Nat.le_refl,z0c,w7u,List.drop_zero,htk,z0b,v1]
  try simp only [y1c,z4a,z5j,c2,z5n,Int.toNat_zero]
  try rfl
 have t1:x2m it0 std ([[D.list false 2 (z0d b)]],l,H,z0d cur,z0d (z20 cur b),(1:Int),())=some (.inr ([[D.list false 2 (z0d b)]],l,H,z0d (z20 cur b),())):=by
  have c1:¬ (1:Int)<((1:Nat):Int):=by omega
  simp only [x2m,z0u,z0v,List.length_singleton,hl2,z0c,c1]
  try simp
 rw [z0h,t0]
 simp only
 rw [z0h,t1]
theorem w7e {l:List Pt} {hs:List (List Pt)} (hf:z49 l hs):G49 std (z0d l,z1s hs,())=some (z0d (z1g (z1i l hs)),()):=by
 have hsl:∀ x∈l,z1e x:=fun x hx=>by obtain ⟨a1,a2,a3,a4⟩:=hf.box x hx; exact ⟨by omega,by omega,by omega,by omega⟩
 have key:=z3k (b:=x8i it0 std) (fun (i:Nat)=>(z0d l,z1s hs,z0d (z1g (z1i l (hs.take i))),(i:Int),())) (fun i=>i≤hs.length) (fun i=>hs.length - i) (fun _=>(z0d (z1g (z1i l hs)),())) (fun i hi=>by
  by_cases hlt:i<hs.length
  ·left
   obtain ⟨h,hh⟩:=z0l hlt
   have hm:=List.mem_of_getElem? hh
   have gh:=y85 hh
   have h4:=hf.few
   have hmany:=hf.manyH h hm
   have hhs:∀ x∈h,z1e x:=fun x hx=>y6o (k:=1000) (by omega) (hf.boxH h hm x hx)
   have hhn:h≠[]:=hf.neH h hm
   have h61:g61 it0 std (z0d h,())=some (z0d (z1g h),()):=w2o (by have:=hmany.2; omega) hhn hhs
   have hcyh:=z2f hhn
   have hcylen:=y86 hcyh
   have hfi:=hf.take i
   have hA:=hfi.cyc
   have hAl:=z5y hfi
   have hAs:∀ x∈z1g (z1i l (hs.take i)),z1e x:=fun x hx=>z16 (hfi.cbox x hx)
   have hBs:∀ x∈z1g h,z1e x:=fun x hx=>hhs x (z4z hcyh x hx)
   have hbl:(z1g h).length≤100:=by have:=hmany.2; omega
   have hsum:=w7r hBs hAs (by omega) hbl (z0d l) (z1s hs)
   have e1:z1i l (hs.take (i+1))=z20 (z1i l (hs.take i)) h:=by rw [z59 hh,y12]
   have hc:=w1z hA hcyh
   have h61b:g61 it0 std (z0d (z20 (z1g (z1i l (hs.take i))) (z1g h)),())=some (z0d (z1g (z1i l (hs.take (i+1)))),()):=by
    have hh2:g61 it0 std (z0d (z20 (z1g (z1i l (hs.take i))) (z1g h)),())=_:=w2o (l:=z20 (z1g (z1i l (hs.take i))) (z1g h)) (by
     rw [x0h]
     have:=Nat.mul_le_mul (show (z1g (z1i l (hs.take i))).length≤100 by omega) hbl
     omega) (y3r (z4g hfi.allNe) (z4g hhn)) (fun x hx=>by
     rw [z6j] at hx
     obtain ⟨u,hu,v,hv,rfl⟩:=hx
     have b1:=hfi.cbox u hu
     have b2:=hf.boxH h hm v (z4z hcyh v hv)
     simp only [z0m,z1e,ad] at*; omega)
    rw [y9h hc] at hh2
    rw [hh2,e1]
   have c1:(i:Int)<(hs.length:Int):=by omega
   have c2:(i:Int)≥0:=by omega
   have hw:=z04 (i:=i) (by omega)
   refine ⟨i+1,?_,by omega,by omega,rfl⟩
   simp only [x8i,it0_eq,z2a,z3x,z2w,z24,z3s,z2t,z1k,z3q,z4a,z5j,z5n,w7t,y1c,z4s,rdD,y1u,c1,c2,Int.toNat_natCast,gh,z67,Option.bind_some,x2d,h61,hsum,h61b,decide_true,if_true,z0b,hw,z0c,List.length_singleton]
  ·right
   have:i=hs.length:=by omega
   subst this
   have hn:¬ ((hs.length:Int)<(hs.length:Int)):=by omega
   simp only [x8i,z0u,z0v,y1u,hn,List.take_length]) 0 (Nat.zero_le _)
 have h61:g61 it0 std (z0d l,())=some (z0d (z1g l),()):=w2o (by have:=hf.many.2; omega) hf.ne hsl
 have k0:((0:Nat):Int)=0:=rfl
 have e0:z1i l (hs.take 0)=l:=rfl
 rw [k0,e0] at key
 unfold G49
 simp only [g49,it0_eq,z24,z2a,z2w,h61,Option.bind_some,z4s,decide_true,if_true,key]
end Go.Am
end
