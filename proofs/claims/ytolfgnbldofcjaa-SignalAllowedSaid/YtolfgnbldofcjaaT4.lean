/- Texts of this claim. -/
import Derived.Test.YtolfgnbldofcjaaT3
import Derived.Shelf.SlSortCmp.WholeK
import Derived.Test.YtolfgnbldofcjaaProg
import Derived.KernelRfl
set_option linter.unusedVariables false
set_option linter.unusedSimpArgs false
set_option linter.unusedSectionVars false
set_option maxRecDepth 100000
set_option maxHeartbeats 0
section
namespace Go.Am
open Go.ChangeShapes Go.WideShapes Go.ChangeAt M06
theorem u8_of {x:D} (h:DK (.int .u8) x):∃ n:Int,x= .int .u8 n∧(Lit.int IntKind.u8 n).wf=true:=by
 match x,h with
 | .int k n,h=>obtain ⟨rfl,h⟩:=h; exact ⟨n,rfl,h⟩
theorem places_rows {es:List (List D)} (hr:∀ r∈es,DKs [.int .i64, .int .i64] r):∃ l:List Pt,es=encP l:=by
 induction es with
 |nil=>exact ⟨[],rfl⟩
 |cons r es ih=>
  obtain ⟨l,rfl⟩:=ih fun r hr'=>hr r (List.mem_cons_of_mem _ hr')
  have h0:=hr r (List.mem_cons_self ..)
  match r,h0 with
  |[.int k1 a, .int k2 b],h0=>
   obtain ⟨⟨rfl,a1⟩,⟨rfl,a2⟩,_⟩:=h0
   exact ⟨(a,b)::l,rfl⟩
theorem places_of {x:D} (h:DK (.list [.int .i64, .int .i64]) x):∃ l:List Pt,x= .list false 2 (encP l):=by
 match x,h with
 | .list f z es,h=>
  obtain ⟨rfl,rfl,hl,hr⟩:=h
  rw [DKrows_iff] at hr
  clear hl
  obtain ⟨l,rfl⟩:=places_rows hr
  exact ⟨l,rfl⟩
theorem hazes_of {x:D} (h:DK (.list [.list [.int .i64, .int .i64]]) x):∃ hs:List (List Pt),x= .list false 1 (encH hs):=by
 match x,h with
 | .list f z es,h=>
  obtain ⟨rfl,rfl,hl,hr⟩:=h
  rw [DKrows_iff] at hr
  clear hl
  have:∃ hs:List (List Pt),es=encH hs:=by
   induction es with
   |nil=>exact ⟨[],rfl⟩
   |cons r es ih=>
    obtain ⟨ws,rfl⟩:=ih fun r hr'=>hr r (List.mem_cons_of_mem _ hr')
    have h0:=hr r (List.mem_cons_self ..)
    match r,h0 with
    |[y],h0=>
     obtain ⟨l,rfl⟩:=places_of h0.1
     exact ⟨l::ws,rfl⟩
  obtain ⟨ws,rfl⟩:=this
  exact ⟨ws,rfl⟩
theorem glass_of {x:D} (h:∃ ds,x= .agg ds∧DKs [.list [.int .i64, .int .i64], .list [.list [.int .i64, .int .i64]]] ds):∃ (l:List Pt) (hs:List (List Pt)),x= .agg [.list false 2 (encP l), .list false 1 (encH hs)]:=by
 obtain ⟨ds,rfl,h⟩:=h
 match ds,h with
 |[a,b],h=>
  obtain ⟨l,rfl⟩:=places_of h.1
  obtain ⟨hs,rfl⟩:=hazes_of h.2.1
  exact ⟨l,hs,rfl⟩
def eB (n:Int):List D:=[.int .u8 n]
def encB8 (l:List Int):List (List D):=l.map eB
theorem bytes_of {x:D} (h:DK (.list [.int .u8]) x):∃ l:List Int,x= .list false 1 (encB8 l)∧∀ n∈l,(Lit.int IntKind.u8 n).wf=true:=by
 match x,h with
 | .list f z es,h=>
  obtain ⟨rfl,rfl,hl,hr⟩:=h
  rw [DKrows_iff] at hr
  clear hl
  have:∃ l:List Int,es=encB8 l∧∀ n∈l,(Lit.int IntKind.u8 n).wf=true:=by
   induction es with
   |nil=>exact ⟨[],rfl,by simp⟩
   |cons r es ih=>
    obtain ⟨l,rfl,h1⟩:=ih fun r hr'=>hr r (List.mem_cons_of_mem _ hr')
    have h0:=hr r (List.mem_cons_self ..)
    match r,h0 with
    |[y],h0=>
     obtain ⟨n,rfl,w⟩:=u8_of h0.1
     refine ⟨n::l,rfl,fun m hm=>?_⟩
     rcases List.mem_cons.1 hm with rfl|hm
     ·exact w
     ·exact h1 m hm
  obtain ⟨l,rfl,h1⟩:=this
  exact ⟨l,rfl,h1⟩
end Go.Am
end
section
namespace Go.Am
open Go.Proofs Go.Sort Go.Shelf
section
variable {P:Program}
theorem world_grown {w w':World} (h1:w'.os=w.os) (h2:w'.tape=w.tape) (h3:w'.output=w.output) (h4:w.heap.size≤w'.heap.size) (h5:∀ b,b<w.heap.size→w'.heap[b]?=w.heap[b]?) (h6:w.drawn≤w'.drawn):
  ∃ q os',w'=grow (w.drewN q) os':=by
 refine ⟨w'.drawn - w.drawn,w'.heap.extract w.heap.size w'.heap.size,?_⟩
 obtain ⟨hp,tp,dr,os,out⟩:=w
 obtain ⟨hp',tp',dr',os',out'⟩:=w'
 simp only at h1 h2 h3 h4 h5 h6
 subst h1 h2 h3
 simp only [grow,World.drewN]
 have e1:hp'=hp++hp'.extract hp.size hp'.size:=by
  apply Array.ext_getElem?
  intro i
  rw [Array.getElem?_append]
  split
  ·rename_i hlt; exact h5 i hlt
  ·rename_i hge
   rw [Array.getElem?_extract]
   split
   ·congr 1; omega
   ·rw [Array.getElem?_eq_none (by omega)]
 have e2:dr'=dr+(dr' - dr):=by omega
 rw [←e1, ←e2]
theorem calls_pure {w:World} {g:FuncId} {args:Array Value} {xs:List D} {k:IntKind} {n:Int} {h':List AO} (ha:ARet P g (toA xs) [] (.d (.int k n)) h') (hl:args.toList.length=xs.length)
  (hx:∀ (i:Nat) (x:D),xs[i]?=some x→∃ v,args.toList[i]?=some v∧DRel (fun _=>False) w x v):Calls P g args w fun e w'=>e= .returned (.int k n)∧∃ q os',w'=grow (w.drewN q) os':=by
 intro cs
 let ρ0:Rho:=⟨fun _=>none,fun _=>False⟩
 have hown:ownB ρ0 []=fun _=>False:=by
  funext c
  apply propext
  refine ⟨fun h=>?_,False.elim⟩
  rcases h with h|⟨id,L,hL,_⟩
  ·exact h
  ·cases hL
 have hr:HeapRel P ρ0 [] w:=⟨fun id L hL=>(by cases hL),fun id id' L L' hL=>(by cases hL),fun b hb=>hb.elim,fun id L hL=>(by cases hL)⟩
 obtain ⟨ρ',v,w',fr,s1,s2,s3,s4,s5,s6,s7⟩:=ha.run ρ0 args w cs hr (fun id hid=>absurd rfl hid) ⟨by rw [toA_length, ←hl]; simp,fun i x hi=>by
  rw [toA_get] at hi
  obtain ⟨d,hd,rfl⟩:=Option.map_eq_some_iff.1 hi
  obtain ⟨v,hv,hr⟩:=hx i d hd
  rw [hown,Array.getD_eq_getD_getElem?]
  have:args[i]?=some v:=by simpa using hv
  rw [this]; exact .d hr⟩
 refine ⟨.returned v,w',fr,⟨?_,world_grown s7.os s7.tape s7.output s7.keep.size (fun c hc=>s7.keep.frame c hc ?_) s7.keep.drawn⟩,s1,s2,s3⟩
 ·cases s4 with
  |d h=>cases h; rfl
 ·rw [hown]; exact id
variable {α:Type} [Inhabited α]
def enV2 (f:α→Int×Int) (x:α):List Value:=[.int .i64 (f x).1, .int .i64 (f x).2]
def enR2 (f:α→Int×Int) (x:α):List D:=[.int .i64 (f x).1, .int .i64 (f x).2]
def SortCall (P:Program) (f g:FuncId) (cf:α→α→Int) (tp:α→Int×Int):Prop:=
 ∀ (blk off cap:Nat) (d:Array α) (w:World),CmpLays P g #[] (enV2 tp) 2 cf blk off d.size w→HoldsK (enV2 tp) 2 w blk off d→blk<w.heap.size→d.size<4611686018427387904→
  Calls P f #[.slice (some ⟨blk,off,none⟩) d.size cap, .func (.func g) #[] #[]] w fun e w'=>
   e= .returned (.tuple #[])∧∃ n os,w'=sortWorldK (enV2 tp) 2 w blk off n (pdq (ltOf cf) d 0 d.size (Lib.bitLen d.size) true true) os
theorem cmpLays_of {g:FuncId} {cf:α→α→Int} {tp:α→Int×Int} (h:∀ x y,ARet P g (toA [.agg (enR2 tp x), .agg (enR2 tp y)]) [] (.d (.int .i64 (cf x y))) []) (blk off size:Nat) (w:World):CmpLays P g #[] (enV2 tp) 2 cf blk off size w:=by
 intro m os dk hdk x y
 refine calls_pure (h x y) (by simp) fun i z hz=>?_
 have ag:∀ (O:Nat→Prop) (w:World) (x:α),DRel O w (.agg (enR2 tp x)) (.agg (enV2 tp x).toArray):=fun O w x=>
  .agg _ _ (by simp [enR2,enV2]) fun i d hi=>by
   match i,hi with
   |0,hi=>cases hi; exact .int _ _
   |1,hi=>cases hi; exact .int _ _
   |i+2,hi=>simp [enR2] at hi
 match i,hz with
 |0,hz=>cases hz; exact ⟨_,by simp,ag _ _ _⟩
 |1,hz=>cases hz; exact ⟨_,by simp,ag _ _ _⟩
 |i+2,hz=>simp at hz
theorem flatK_get {tp:α→Int×Int} {d:Array α} {i j:Nat} (hi:i<d.size) (hj:j<2):(Go.Sort.flatK (enV2 tp) 2 d)[i*2+j]! =(enV2 tp d[i])[j]! :=by
 rw [get_flatK _ _ _ _ (by omega)]
 have e1:(i*2+j) / 2=i:=by omega
 have e2:(i*2+j) % 2=j:=by omega
 rw [e1,e2,getElem!_pos d i hi]
omit [Inhabited α] in
theorem enR2_get {tp:α→Int×Int} {x:α} {j:Nat} {y:D} (h:(enR2 tp x)[j]?=some y):j<2∧∃ n,y= .int .i64 n∧(enV2 tp x)[j]! = .int .i64 n:=by
 match j,h with
 |0,h=>cases h; exact ⟨by omega,_,rfl,rfl⟩
 |1,h=>cases h; exact ⟨by omega,_,rfl,rfl⟩
 |j+2,h=>simp [enR2] at h
theorem sort_aret {f g:FuncId} {cf:α→α→Int} {tp:α→Int×Int} (hO:SWO (ltOf cf)) (hS:SortCall P f g cf tp) (hcmp:∀ x y,ARet P g (toA [.agg (enR2 tp x), .agg (enR2 tp y)]) [] (.d (.int .i64 (cf x y))) [])
  {d:Array α} (hd:0<d.size) (hsz:d.size<4611686018427387904) (cap:Option Nat):
  ARet P f [.slice 0 2 0 d.size cap, .clo (.func g) [] []] [.row (d.toList.map (enR2 tp))] (.tuple []) [.row ((pdq (ltOf cf) d 0 d.size (Lib.bitLen d.size) true true).toList.map (enR2 tp))]:=⟨by
 intro ρ vs w cs hr hdm har
 obtain ⟨hv1,hv2⟩:=har
 have hs1:vs.size=2:=hv1
 obtain ⟨L,cp,hL,hz,hvs0⟩:∃ L cp,ρ 0=some L∧L.esz=2∧vs.getD 0 undef= .slice (some ⟨L.blk,L.base,none⟩) d.size cp:=by
  have hv:=hv2 0 _ rfl
  generalize hq:vs.getD 0 undef=q at hv
  have key:∀ z,z=d.size→VRel ρ (ownB ρ [.row (d.toList.map (enR2 tp))]) w (.slice 0 2 0 z cap) q→∃ L cp,ρ 0=some L∧L.esz=2∧q= .slice (some ⟨L.blk,L.base,none⟩) d.size cp:=by
   intro z hz hv
   cases hv with
   |slice _ _ _ _ _ L a c h1 h2 h3 h4 h5=>
    subst hz
    refine ⟨L,c,h1,h2,?_⟩
    rw [h3 (by omega)]; simp
   |nils _ _ _ _ a _=>omega
  exact key _ rfl hv
 have hvs1:vs.getD 1 undef= .func (.func g) #[] #[]:=by
  have hv:=hv2 1 _ rfl
  generalize hq:vs.getD 1 undef=q at hv
  cases hv with
  |clo _ _ _ vf vc hf hc _ _=>
   have e1:vf=#[]:=Array.size_eq_zero_iff.1 (by simpa using hf)
   have e2:vc=#[]:=Array.size_eq_zero_iff.1 (by simpa using hc)
   rw [e1,e2]
 have hvs:vs=#[.slice (some ⟨L.blk,L.base,none⟩) d.size cp, .func (.func g) #[] #[]]:=by
  apply Array.ext (by simpa using hs1)
  intro i h1 h2
  simp only [Array.getD_eq_getD_getElem?] at hvs0 hvs1
  match i,h1,h2 with
  |0,h1,h2=>rw [Array.getElem?_eq_getElem h1] at hvs0; simpa using hvs0
  |1,h1,h2=>rw [Array.getElem?_eq_getElem h1] at hvs1; simpa using hvs1
  |i+2,h1,h2=>simp at h2; omega
 subst hvs
 have hlive:(nthA [AO.row (d.toList.map (enR2 tp))] 0).live=true:=rfl
 obtain ⟨hlt,ho⟩:=hr.obj 0 L hL
 obtain ⟨hpos,c,t,hcb,hlen,hcell⟩:=(show ObjRel P ρ _ w L (.row (d.toList.map (enR2 tp))) from ho)
 rw [hz] at hlen hcell
 have hcell':∀ i j,i<d.size→j<2→c[L.base+i*2+j]?=some ((Go.Sort.flatK (enV2 tp) 2 d)[i*2+j]!):=by
  intro i j hi hj
  have hri:(d.toList.map (enR2 tp))[i]?=some (enR2 tp d[i]):=by simp [hi]
  have hx:∃ y,(enR2 tp d[i])[j]?=some y:=by
   match j,hj with
   |0,_=>exact ⟨_,rfl⟩
   |1,_=>exact ⟨_,rfl⟩
  obtain ⟨y,hy⟩:=hx
  obtain ⟨v,hv,_,hrel⟩:=hcell i _ j y hri hy
  obtain ⟨_,n,rfl,hn⟩:=enR2_get hy
  rw [hv,flatK_get hi hj,hn]
  cases hrel; rfl
 have hidx:∀ q,q<(Go.Sort.flatK (enV2 tp) 2 d).size→c[L.base+q]?=some ((Go.Sort.flatK (enV2 tp) 2 d)[q]!):=by
  intro q hq
  simp only [size_flatK] at hq
  have:=hcell' (q / 2) (q % 2) (by omega) (by omega)
  have e:q / 2*2+q % 2=q:=by omega
  rw [Nat.add_assoc,e] at this; exact this
 have hH:HoldsK (enV2 tp) 2 w L.blk L.base d:=by
  intro q hq
  refine ⟨?_,?_⟩
  ·unfold World.cell?
   simp only [hcb]
   have:=hidx q hq
   simpa using this
  ·unfold World.frozen?
   simp only [hcb]
   simp
 obtain ⟨e,w',fr,⟨rfl,n,os,hw'⟩,hcm,hfn,hlv⟩:=hS L.blk L.base cp d w (cmpLays_of hcmp _ _ _ _) hH hlt hsz cs
 generalize hdk:pdq (ltOf cf) d 0 d.size (Lib.bitLen d.size) true true=dk at hw'⊢
 have hdks:dk.size=d.size:=by
  rw [←hdk]
  exact (pdq_sorts (ltOf cf) hO d 0 d.size (Lib.bitLen d.size) true true (Nat.zero_le _) (Nat.le_refl _) (Or.inl rfl)).1.1
 have hr1:=hr.drawn (w.drawn+n) (Nat.le_add_right _ _)
 have hx1:Ext (fun id=>True) ρ [.row (d.toList.map (enR2 tp))] w ρ [.row (d.toList.map (enR2 tp))] { w with drawn:=w.drawn+n }:=Ext.drawn _ _ _ _ _ (Nat.le_add_right _ _)
 let c':=putCells id L.base (Go.Sort.flatK (enV2 tp) 2 dk) c
 have hput:putRowK (enV2 tp) 2 (Sort.ahead w n) L.blk L.base dk=World.setObj { w with drawn:=w.drawn+n } L.blk (.cells c' t (0,0)):=by
  unfold putRowK putRow mapBlock World.setObj Sort.ahead
  congr 1
  apply Array.ext_getElem?
  intro b
  simp only [Array.getElem?_modify,Array.getElem?_setIfInBounds]
  by_cases hb:L.blk=b
  ·subst hb
   simp only [if_true,hlt,hcb,Option.map_some,onCells]
   rfl
  ·simp [hb]
 have hc's:c'.size=c.size:=by simp [c',putCells]
 have hbs:∀ k,bsize { w with drawn:=w.drawn+n } L.blk=some k→bsize (World.setObj { w with drawn:=w.drawn+n } L.blk (.cells c' t (0,0))) L.blk=some k:=by
  intro k hk
  rw [bsize_cells (w:={ w with drawn:=w.drawn+n }) hcb] at hk; cases hk
  rw [bsize_cells (setObj_same { w with drawn:=w.drawn+n } L.blk _ hlt)]
  rw [hc's]
 have hc'get:∀ i j,i<d.size→j<2→c'[L.base+i*2+j]?=some ((Go.Sort.flatK (enV2 tp) 2 dk)[i*2+j]!):=by
  intro i j hi hj
  have h1:=hcell' i j hi hj
  have hq:L.base+i*2+j<c.size:=(Array.getElem?_eq_some_iff.1 h1).1
  simp only [c',putCells]
  rw [Array.getElem?_mapIdx,h1]
  simp only [Option.map_some,size_flatK,hdks]
  rw [if_pos (by omega)]
  have e:L.base+i*2+j - L.base=i*2+j:=by omega
  rw [e]; rfl
 have hset:=hr1.set hL hlive (.row (dk.toList.map (enR2 tp))) rfl (.cells c' t (0,0)) hbs (by
  refine ⟨hpos,c',t,setObj_same _ _ _ hlt,fun i r hi=>?_,fun i r j y hi hy=>?_⟩
  ·rw [hz]
   rw [List.getElem?_map] at hi
   obtain ⟨x,_,rfl⟩:=Option.map_eq_some_iff.1 hi
   rfl
  ·rw [hz]
   rw [List.getElem?_map] at hi
   obtain ⟨x,hx,rfl⟩:=Option.map_eq_some_iff.1 hi
   have hil:i<dk.size:=by
    have:=(List.getElem?_eq_some_iff.1 hx).1
    simpa using this
   have hxe:dk[i]=x:=by
    have:=(List.getElem?_eq_some_iff.1 hx).2
    simpa using this
   obtain ⟨hj,m,rfl,hm⟩:=enR2_get hy
   refine ⟨.int .i64 m,?_,rfl, .int _ _⟩
   rw [hc'get i j (by omega) hj,flatK_get hil hj,hxe,hm])
 have hext:=Ext.set (fun _=>True) hr1 hL hlive (.row (dk.toList.map (enR2 tp))) rfl (.cells c' t (0,0)) hbs
 have hw2:w'=grow (World.setObj { w with drawn:=w.drawn+n } L.blk (.cells c' t (0,0))) os:=by rw [hw']; unfold sortWorldK; rw [hput]
 generalize hwx:World.setObj { w with drawn:=w.drawn+n } L.blk (.cells c' t (0,0))=wx at hset hext hw2
 have hold:∀ b,b<wx.heap.size→(grow wx os).heap[b]?=wx.heap[b]?:=by
  intro b hb
  show (wx.heap++os)[b]?=_
  rw [Array.getElem?_append_left hb]
 have hkg:Keep (ownB ρ (putA [.row (d.toList.map (enR2 tp))] 0 (.row (dk.toList.map (enR2 tp))))) (ownB ρ (putA [.row (d.toList.map (enR2 tp))] 0 (.row (dk.toList.map (enR2 tp))))) wx (grow wx os):=
  ⟨by show _≤(wx.heap++os).size; simp,fun b hb _=>hold b hb,fun _ _ h=>h,fun b k hb=>by
   have:=bsize_lt hb
   unfold bsize; rw [hold b this]; exact hb,drawnLe.refl _⟩
 have hr3:HeapRel P ρ [.row (dk.toList.map (enR2 tp))] (grow wx os):=hset.of_keep hkg fun b hb=>hold b (own_lt hset hb)
 have hx3:Ext (fun _=>True) ρ (putA [.row (d.toList.map (enR2 tp))] 0 (.row (dk.toList.map (enR2 tp)))) wx ρ [.row (dk.toList.map (enR2 tp))] (grow wx os):=
  ⟨rfl,rfl,rfl,hkg,fun _ _=>rfl,rfl,fun b hb=>hold b (hset.fr b hb)⟩
 subst hw2
 exact ⟨ρ, .tuple #[],_,fr,hcm,hfn,hlv, .tuple [] #[] rfl (fun i x hx=>by simp at hx),hr3,fun id hid=>hdm id hid,((hx1.trans hext).trans hx3).mono fun _ _=>trivial⟩⟩
end
end Go.Am
end
section
namespace M06
def Lt (a b:Pt):Prop:=Pos (sb b a)
def Le (a b:Pt):Prop:=a=b∨Lt a b
theorem Lt.trans {a b c:Pt} (h1:Lt a b) (h2:Lt b c):Lt a c:=by
 simp only [Lt,Pos,sb] at*; omega
theorem Lt.irrefl {a:Pt} (h:Lt a a):False:=by
 simp only [Lt,Pos,sb] at h; omega
theorem Lt.asymm {a b:Pt} (h:Lt a b) (k:Lt b a):False:=(h.trans k).irrefl
theorem Lt.ne {a b:Pt} (h:Lt a b):a≠b:=by rintro rfl; exact h.irrefl
theorem lt_tri (a b:Pt):Lt a b∨a=b∨Lt b a:=by
 obtain ⟨a1,a2⟩:=a; obtain ⟨b1,b2⟩:=b
 simp only [Lt,Pos,sb,Prod.mk.injEq]; omega
theorem cr_self1 (a b:Pt):cr a b a=0:=by simp only [cr,crs,sb]; grind
theorem cr_self2 (a b:Pt):cr a b b=0:=by simp only [cr,crs,sb]; grind
theorem cr_swap (a b c:Pt):cr a c b= - cr a b c:=by simp only [cr,crs,sb]; grind
theorem cr_back (s t x:Pt):crs (sb t x) (sb t s)=cr s t x:=by simp only [cr,crs,sb]; grind
theorem cr_back2 (t p x:Pt):crs (sb t x) (sb p t)=cr t p x:=by simp only [cr,crs,sb]; grind
theorem cr_fwd (s t p:Pt):crs (sb t s) (sb p t)=cr s t p:=by simp only [cr,crs,sb]; grind
theorem cr_sum (s t c p:Pt):cr s t p=cr s t c+crs (sb t s) (sb p c):=by simp only [cr,crs,sb]; grind
def Cov:List Pt→Pt→Prop
 |[],_=>False
 |[t],x=>x=t
 |t::s::r,x=>x=t∨(Lt s x∧Lt x t∧0≤cr s t x)∨Cov (s::r) x
def Conv:List Pt→Prop
 |t::s::r::l=>0<cr r s t∧Conv (s::r::l)
 |_=>True
def Edge:List Pt→Pt→Prop
 |t::s::r,x=>(0≤cr s t x∧(cr s t x=0→Le s x∧Le x t))∧Edge (s::r) x
 |_,_=>True
def Left:List Pt→Pt→Prop
 |t::s::r,x=>0<cr s t x∧Left (s::r) x
 |_,_=>True
def Desc:List Pt→Prop
 |t::s::r=>Lt s t∧Desc (s::r)
 |_=>True
def pop (p:Pt):List Pt→List Pt
 |t::s::r=>if cr s t p≤0 then pop p (s::r) else t::s::r
 |l=>l
termination_by l=>l.length
def push (st:List Pt) (p:Pt):List Pt:=p::pop p st
theorem Conv.tail {t:Pt} {l:List Pt} (h:Conv (t::l)):Conv l:=by
 match l,h with
 |[],_=>trivial
 |[_],_=>trivial
 |_::_::_,h=>exact h.2
theorem Desc.tail {t:Pt} {l:List Pt} (h:Desc (t::l)):Desc l:=by
 match l,h with
 |[],_=>trivial
 |_::_,h=>exact h.2
theorem Edge.tail {t:Pt} {l:List Pt} {x:Pt} (h:Edge (t::l) x):Edge l x:=by
 match l,h with
 |[],_=>trivial
 |_::_,h=>exact h.2
theorem cov_drop {p t s:Pt} {r:List Pt} {x:Pt} (h1:Lt s t) (h2:Lt t p) (hc:cr s t p≤0) (h:Cov (p::t::s::r) x):Cov (p::s::r) x:=by
 have hsp:Lt s p:=h1.trans h2
 rcases h with h|⟨a,b,c⟩|h|⟨a,b,c⟩|h
 ·exact .inl h
 ·refine .inr (.inl ⟨h1.trans a,b,?_⟩)
  have e1:0≤crs (sb p x) (sb p t):=by rw [cr_back]; exact c
  have e2:0≤crs (sb p t) (sb p s):=by rw [cr_back,cr_swap]; omega
  have:=crs_trans (show Pos (sb p x) from b) (show Pos (sb p t) from h2) (show Pos (sb p s) from hsp) e1 e2
  rw [cr_back] at this; exact this
 ·subst h
  refine .inr (.inl ⟨h1,h2,?_⟩)
  rw [cr_swap]; omega
 ·refine .inr (.inl ⟨a,b.trans h2,?_⟩)
  have e1:0≤crs (sb p s) (sb t s):=by
   have:crs (sb p s) (sb t s)=cr s p t:=rfl
   rw [this,cr_swap]; omega
  exact crs_trans (show Pos (sb p s) from hsp) (show Pos (sb t s) from h1) (show Pos (sb x s) from a) e1 c
 ·exact .inr (.inr h)
structure Chain (q:List Pt) (st:List Pt):Prop where
 desc:Desc st
 conv:Conv st
 cov:∀ x∈q,Cov st x
 edge:∀ x∈q,Edge st x
 sub:∀ y∈st,y∈q
theorem pop_eq1 (p:Pt) {t s:Pt} {r:List Pt} (h:cr s t p≤0):pop p (t::s::r)=pop p (s::r):=by
 rw [pop]; simp [h]
theorem pop_eq2 (p:Pt) {t s:Pt} {r:List Pt} (h:¬ cr s t p≤0):pop p (t::s::r)=t::s::r:=by
 rw [pop]; simp [h]
theorem pop_one (p t:Pt):pop p [t]=[t]:=by rw [pop]; simp
theorem left_of {p:Pt}:∀ {st:List Pt},Desc (p::st)→Conv st→(∀ t s r,st=t::s::r→0<cr s t p)→Left st p
 |[],_,_,_=>trivial
 |[_],_,_,_=>trivial
 |[t,s],_,_,h=>⟨h t s [] rfl,trivial⟩
 |t::s::r::l,hd,hc,h=>by
  have h1:=h t s _ rfl
  refine ⟨h1,left_of (st:=s::r::l) ⟨hd.2.1.trans hd.1,hd.2.2⟩ hc.2 ?_⟩
  intro t' s' r' e
  cases e
  have a:=hc.1
  have e1:0<crs (sb s r) (sb t s):=by rw [cr_fwd]; exact a
  have e2:0<crs (sb t s) (sb p t):=by rw [cr_fwd]; exact h1
  have:=crs_trans_lt (show Pos (sb s r) from hd.2.2.1) (show Pos (sb t s) from hd.2.1) (show Pos (sb p t) from hd.1) (by omega) (by omega) (.inl e1)
  rw [cr_sum r s t p]; omega
theorem cov_le {t:Pt}:∀ {l:List Pt} {x:Pt},Desc (t::l)→Cov (t::l) x→Le x t
 |[],x,_,h=> .inl h
 |s::r,x,hd,h=>by
  rcases h with h|⟨_,b,_⟩|h
  ·exact .inl h
  ·exact .inr b
  ·rcases cov_le hd.2 h with h|h
   ·exact .inr (h▸hd.1)
   ·exact .inr (h.trans hd.1)
theorem chain_pop {q:List Pt} {p:Pt}:∀ (st:List Pt),st≠[]→Desc (p::st)→Conv st→(∀ x∈q,Cov (p::st) x)→(∀ x∈q,Edge st x)→
  ∃ t r,pop p st=t::r∧Desc (p::t::r)∧Conv (p::t::r)∧(∀ x∈q,Cov (p::t::r) x)∧(∀ x∈q,Edge (t::r) x)∧(∀ y∈t::r,y∈st)∧(∀ t' s' r',t::r=t'::s'::r'→0<cr s' t' p)
 |[t],_,hd,hc,hv,he=>⟨t,[],pop_one p t,hd,trivial,hv,he,fun y h=>h,fun _ _ _ e=>by cases e⟩
 |t::s::r,_,hd,hc,hv,he=>by
  by_cases h:cr s t p≤0
  ·obtain ⟨t',r',g1,g2,g3,g4,g5,g6,g7⟩:=chain_pop (s::r) (by simp) ⟨hd.2.1.trans hd.1,hd.2.2⟩ hc.tail (fun x hx=>cov_drop hd.2.1 hd.1 h (hv x hx)) (fun x hx=>(he x hx).tail)
   exact ⟨t',r',by rw [pop_eq1 p h]; exact g1,g2,g3,g4,g5,fun y hy=>List.mem_cons_of_mem _ (g6 y hy),g7⟩
  ·refine ⟨t,s::r,pop_eq2 p h,hd,⟨by omega,hc⟩,hv,he,fun y h=>h,fun _ _ _ e=>by cases e; omega⟩
theorem edge_left {p:Pt}:∀ {st:List Pt},Left st p→Edge st p
 |[],_=>trivial
 |[_],_=>trivial
 |t::s::r,h=>⟨⟨by have:=h.1; omega,fun e=>by have:=h.1; omega⟩,edge_left h.2⟩
theorem chain_push {q st:List Pt} (hne:st≠[]) (h:Chain q st) {p:Pt} (hp:∀ x∈q,Lt x p):Chain (q++[p]) (push st p):=by
 have hdp:Desc (p::st):=by
  match st,hne,h with
  |t::r,_,h=>exact ⟨hp t (h.sub t (by simp)),h.desc⟩
 have hcv:∀ x∈q,Cov (p::st) x:=by
  intro x hx
  match st,hne,h.cov x hx with
  |t::r,_,hc=>exact .inr (.inr hc)
 obtain ⟨t,r,g1,g2,g3,g4,g5,g6,g7⟩:=chain_pop st hne hdp h.conv hcv h.edge
 have hps:push st p=p::t::r:=by rw [push,g1]
 rw [hps]
 have hl:Left (t::r) p:=left_of g2 g3.tail g7
 have htq:t∈q:=h.sub t (g6 t (by simp))
 refine ⟨g2,g3,fun x hx=>?_,fun x hx=>?_,fun y hy=>?_⟩
 ·rcases List.mem_append.1 hx with hx|hx
  ·exact g4 x hx
  ·simp at hx; subst hx; exact .inl rfl
 ·rcases List.mem_append.1 hx with hx|hx
  ·refine ⟨?_,g5 x hx⟩
   rcases g4 x hx with e|⟨a,b,c⟩|hc
   ·subst e; exact ⟨by rw [cr_self2]; omega,fun _=>⟨.inr g2.1, .inl rfl⟩⟩
   ·exact ⟨c,fun _=>⟨.inr a, .inr b⟩⟩
   ·
    rcases cov_le g2.2 hc with e|hlt
    ·subst e; exact ⟨by rw [cr_self1]; omega,fun _=>⟨.inl rfl, .inr g2.1⟩⟩
    ·match r,g2,g5 x hx,g7,hc with
     |[],_,_,_,hc=>exact absurd hc hlt.ne
     |s::r,g2,ge,g7,_=>
      have e1:0≤crs (sb t x) (sb t s):=by rw [cr_back]; exact ge.1.1
      have e2:0<crs (sb t s) (sb p t):=by rw [cr_fwd]; exact g7 t s r rfl
      have:=crs_trans_lt (show Pos (sb t x) from hlt) (show Pos (sb t s) from g2.2.1) (show Pos (sb p t) from g2.1) e1 (by omega) (.inr e2)
      rw [cr_back2] at this
      exact ⟨by omega,fun e=>by omega⟩
  ·simp at hx; subst hx
   exact ⟨⟨by rw [cr_self2]; omega,fun _=>⟨.inr g2.1, .inl rfl⟩⟩,edge_left hl⟩
 ·rcases List.mem_cons.1 hy with e|hy
  ·subst e; simp
  ·exact List.mem_append.2 (.inl (h.sub y (g6 y hy)))
theorem chain_one (p:Pt):Chain [p] [p]:=⟨trivial,trivial,fun x hx=>(by simpa using hx:x=p),fun x hx=>trivial,fun y hy=>hy⟩
theorem chain_fold:∀ (l q st:List Pt),st≠[]→Chain q st→(∀ x∈q,∀ y∈l,Lt x y)→l.Pairwise Lt→Chain (q++l) (l.foldl push st)∧l.foldl push st≠[]
 |[],q,st,hne,h,_,_=>by simpa using ⟨h,hne⟩
 |p::l,q,st,hne,h,hq,hl=>by
  have h1:=chain_push hne h (fun x hx=>hq x hx p (by simp))
  have:=chain_fold l (q++[p]) (push st p) (by simp [push]) h1 (fun x hx y hy=>by
   rcases List.mem_append.1 hx with hx|hx
   ·exact hq x hx y (List.mem_cons_of_mem _ hy)
   ·simp at hx; subst hx; exact (List.pairwise_cons.1 hl).1 y hy) (List.pairwise_cons.1 hl).2
  simpa using this
end M06
end
noncomputable section
namespace Go.Am
def ctr109o:Ctr:=
 ⟨109,[.full 0 2, .int .i64, .int .i64, .clo 87 [] []],[.row [ci,ci]],[]⟩
def F109o:Prim→Tup (ctr109o).scs→Option (STup (scss (ctr109o).outs)):=
 fun _ _=>none
theorem enters109o:Enters Go.Proofs.Try.prog 109:=enters_auto (b:=_) rfl (by kernel_rfl)
theorem ok109o:CtrOk Go.Proofs.Try.prog ctr109o (F109o std):=⟨enters109o,fun x y h=>by cases h⟩
def ctr110o:Ctr:=
 ⟨110,[.full 0 2, .int .i64, .int .i64, .clo 87 [] []],[.row [ci,ci]],[]⟩
def F110o:Prim→Tup (ctr110o).scs→Option (STup (scss (ctr110o).outs)):=
 fun _ _=>none
theorem enters110o:Enters Go.Proofs.Try.prog 110:=enters_auto (b:=_) rfl (by kernel_rfl)
theorem ok110o:CtrOk Go.Proofs.Try.prog ctr110o (F110o std):=⟨enters110o,fun x y h=>by cases h⟩
def ctr111o:Ctr:=
 ⟨111,[.full 0 2, .int .i64, .int .i64, .clo 87 [] []],[.row [ci,ci]],[]⟩
def F111o:Prim→Tup (ctr111o).scs→Option (STup (scss (ctr111o).outs)):=
 fun _ _=>none
theorem enters111o:Enters Go.Proofs.Try.prog 111:=enters_auto (b:=_) rfl (by kernel_rfl)
theorem ok111o:CtrOk Go.Proofs.Try.prog ctr111o (F111o std):=⟨enters111o,fun x y h=>by cases h⟩
def ctr117o:Ctr:=
 ⟨117,[.int .u64],[],[(.ret,⟨[(0, .int .i64)],[],1⟩)]⟩
def la117o:List LA:=
 []
def ja117o:List JA:=
 [⟨117,[true,false,true,true],0,[(AX.normal,⟨[(0, .int .u64),(2, .int .i64)],[],25⟩)]⟩,
 ⟨117,[true,false,true],0,[(AX.normal,⟨[(0, .int .u64),(2, .int .i64)],[],25⟩)]⟩,
 ⟨117,[true,false,true,true,true],0,[(AX.normal,⟨[(0, .int .u64),(2, .int .i64)],[],25⟩)]⟩]
def gam117o:List CF:=
 []
def an117o:Anns:=
 ⟨gam117o,ja117o,[]⟩
def G117o:(p:Prim)→T1→Option T0:=
 fun p x=>
 opt.bnd T5 _ (
 opt.run T5 (
 opt.ask _ (p.cmp .geq x.1 (4294967296:Int)) (
 opt.need _ (p.cmp .geq (32:Int) (0:Int))<|
 opt.ret _ ((p.ar .shr .u64 x.1 (32:Int)),((32:Int),()))) (
 opt.ret _ (x.1,((0:Int),()))))) fun a=>
 opt.bnd T5 _ (
 opt.run T5 (
 opt.ask _ (p.cmp .geq a.1 (65536:Int)) (
 opt.need _ (p.cmp .geq (16:Int) (0:Int))<|
 opt.ret _ ((p.ar .shr .u64 a.1 (16:Int)),((p.ar .add .i64 a.2.1 (16:Int)),()))) (
 opt.ret _ (a.1,(a.2.1,()))))) fun b=>
 opt.bnd T5 _ (
 opt.run T5 (
 opt.ask _ (p.cmp .geq b.1 (256:Int)) (
 opt.need _ (p.cmp .geq (8:Int) (0:Int))<|
 opt.ret _ ((p.ar .shr .u64 b.1 (8:Int)),((p.ar .add .i64 b.2.1 (8:Int)),()))) (
 opt.ret _ (b.1,(b.2.1,()))))) fun c=>
 opt.need _ (bif (p.cmp .geq (p.cvt .u8 c.1) (0:Int)) then (p.cmp .lss (p.cvt .u8 c.1) (p.ofNat 256)) else Bool.false)<|
 opt.ret _ ((p.ar .add .i64 c.2.1 (p.cvt .i64 (p.byte (ByteArray.mk #[0,1,2,2,3,3,3,3,4,4,4,4,4,4,4,4,5,5,5,5,5,5,5,5,5,5,5,5,5,5,5,5,6,6,6,6,6,6,6,6,6,6,6,6,6,6,6,6,6,6,6,6,6,6,6,6,6,6,6,6,6,6,6,6,7,7,7,7,7,7,7,7,7,7,7,7,7,7,7,7,7,7,7,7,7,7,7,7,7,7,7,7,7,7,7,7,7,7,7,7,7,7,7,7,7,7,7,7,7,7,7,7,7,7,7,7,7,7,7,7,7,7,7,7,7,7,7,7,8,8,8,8,8,8,8,8,8,8,8,8,8,8,8,8,8,8,8,8,8,8,8,8,8,8,8,8,8,8,8,8,8,8,8,8,8,8,8,8,8,8,8,8,8,8,8,8,8,8,8,8,8,8,8,8,8,8,8,8,8,8,8,8,8,8,8,8,8,8,8,8,8,8,8,8,8,8,8,8,8,8,8,8,8,8,8,8,8,8,8,8,8,8,8,8,8,8,8,8,8,8,8,8,8,8,8,8,8,8,8,8,8,8,8,8,8,8,8,8,8,8,8,8,8,8,8,8]) (p.cvt .u8 c.1)))),())
theorem ok117o:CtrOk PG ctr117o (G117o std):=okF (a:=an117o) (l:=la117o) (gN) (by kernel_rfl) fun _ _=>by kernel_rfl
def ctr105o:Ctr:=
 ⟨105,[.int .u64],[],[(.ret,⟨[(0, .int .i64)],[],1⟩)]⟩
def la105o:List LA:=
 []
def ja105o:List JA:=
 []
def gam105o:List CF:=
 [⟨ctr117o,G117o⟩]
def an105o:Anns:=
 ⟨gam105o,ja105o,[]⟩
def G105o:(p:Prim)→T1→Option T0:=
 fun p x=>
 opt.bnd T0 _ (G117o p (x.1,())) fun a=>
 opt.ret _ (a.1,())
theorem ok105o:CtrOk PG ctr105o (G105o std):=okF (a:=an105o) (l:=la105o) (gC ok117o (gN)) (by kernel_rfl) fun _ _=>by kernel_rfl
def ctr108o:Ctr:=
 ⟨108,[.full 0 2, .int .i64, .int .i64, .clo 87 [] []],[.row [ci,ci]],[(.ret,⟨[(0, .tuple [])],[.row [ci,ci]],1⟩)]⟩
def la108o:List LA:=
 [⟨108,[false,true],1,⟨⟨[(0, .full 0 2),(1, .int .i64),(2, .int .i64),(3, .clo 87 [] []),(8, .int .i64)],[.row [ci,ci]],53⟩,[((AX.exit 0),⟨[],[.row [ci,ci]],53⟩)]⟩⟩,
 ⟨108,[false,true,false,false,true,false,false,true],1,⟨⟨[(0, .full 0 2),(1, .int .i64),(2, .int .i64),(3, .clo 87 [] []),(8, .int .i64),(9, .int .i64)],[.row [ci,ci]],53⟩,[((AX.exit 2),⟨[(0, .full 0 2),(1, .int .i64),(2, .int .i64),(3, .clo 87 [] []),(8, .int .i64)],[.row [ci,ci]],53⟩)]⟩⟩]
def ja108o:List JA:=
 []
def gam108o:List CF:=
 [⟨ctr87,G87⟩]
def an108o:Anns:=
 ⟨gam108o,ja108o,[]⟩
def c108o_2 (it:It) (p:Prim):(LD×T11)→Option ((LD×T11)⊕(LD×T6)):=
 fun a=>opt.run _ (
 opt.ask _ (p.cmp .gtr a.2.2.2.2.1 a.2.1) (
 opt.need _ (bif (p.cmp .geq a.2.2.2.2.1 (0:Int)) then (p.cmp .lss a.2.2.2.2.1 (p.ofNat (p.len a.1))) else Bool.false)<|
 opt.need _ (p.rowOk a.1 (p.add 0 (p.nat a.2.2.2.2.1)) [ci,ci])<|
 opt.need _ (bif (p.cmp .geq (p.ar .sub .i64 a.2.2.2.2.1 (1:Int)) (0:Int)) then (p.cmp .lss (p.ar .sub .i64 a.2.2.2.2.1 (1:Int)) (p.ofNat (p.len a.1))) else Bool.false)<|
 opt.need _ (p.rowOk a.1 (p.add 0 (p.nat (p.ar .sub .i64 a.2.2.2.2.1 (1:Int)))) [ci,ci])<|
 opt.bnd T0 _ (g87 it p ((p.rdI a.1 (p.add 0 (p.nat a.2.2.2.2.1)) 0),((p.rdI a.1 (p.add 0 (p.nat a.2.2.2.2.1)) 1),((p.rdI a.1 (p.add 0 (p.nat (p.ar .sub .i64 a.2.2.2.2.1 (1:Int)))) 0),((p.rdI a.1 (p.add 0 (p.nat (p.ar .sub .i64 a.2.2.2.2.1 (1:Int)))) 1),()))))) fun b=>
 opt.ask _ (p.cmp .lss b.1 (0:Int)) (
 opt.need _ (bif (p.cmp .geq (p.ar .sub .i64 a.2.2.2.2.1 (1:Int)) (0:Int)) then (p.cmp .lss (p.ar .sub .i64 a.2.2.2.2.1 (1:Int)) (p.ofNat (p.len a.1))) else Bool.false)<|
 opt.need _ (p.rowOk a.1 (p.add 0 (p.nat (p.ar .sub .i64 a.2.2.2.2.1 (1:Int)))) [ci,ci])<|
 opt.need _ (bif (p.cmp .geq a.2.2.2.2.1 (0:Int)) then (p.cmp .lss a.2.2.2.2.1 (p.ofNat (p.len a.1))) else Bool.false)<|
 opt.need _ (p.rowOk a.1 (p.add 0 (p.nat a.2.2.2.2.1)) [ci,ci])<|
 opt.need _ (bif (p.cmp .geq a.2.2.2.2.1 (0:Int)) then (p.cmp .lss a.2.2.2.2.1 (p.ofNat (p.len a.1))) else Bool.false)<|
 opt.need _ (p.rowOk a.1 (p.add 0 (p.nat a.2.2.2.2.1)) [ci,ci])<|
 opt.need _ (bif (p.cmp .geq (p.ar .sub .i64 a.2.2.2.2.1 (1:Int)) (0:Int)) then (p.cmp .lss (p.ar .sub .i64 a.2.2.2.2.1 (1:Int)) (p.ofNat (p.len a.1))) else Bool.false)<|
 opt.need _ (p.rowOk (p.set a.1 (p.add 0 (p.nat a.2.2.2.2.1)) [(D.int .i64 (p.rdI a.1 (p.add 0 (p.nat (p.ar .sub .i64 a.2.2.2.2.1 (1:Int)))) 0)),(D.int .i64 (p.rdI a.1 (p.add 0 (p.nat (p.ar .sub .i64 a.2.2.2.2.1 (1:Int)))) 1))]) (p.add 0 (p.nat (p.ar .sub .i64 a.2.2.2.2.1 (1:Int)))) [ci,ci])<|
 opt.need _ (p.eqN 0 0)<|
 opt.need _ (p.eqN (p.len a.1) (p.len (p.set (p.set a.1 (p.add 0 (p.nat a.2.2.2.2.1)) [(D.int .i64 (p.rdI a.1 (p.add 0 (p.nat (p.ar .sub .i64 a.2.2.2.2.1 (1:Int)))) 0)),(D.int .i64 (p.rdI a.1 (p.add 0 (p.nat (p.ar .sub .i64 a.2.2.2.2.1 (1:Int)))) 1))]) (p.add 0 (p.nat (p.ar .sub .i64 a.2.2.2.2.1 (1:Int)))) [(D.int .i64 (p.rdI a.1 (p.add 0 (p.nat a.2.2.2.2.1)) 0)),(D.int .i64 (p.rdI a.1 (p.add 0 (p.nat a.2.2.2.2.1)) 1))])))<|
 opt.need _ (p.eqN (p.len a.1) (p.len (p.set (p.set a.1 (p.add 0 (p.nat a.2.2.2.2.1)) [(D.int .i64 (p.rdI a.1 (p.add 0 (p.nat (p.ar .sub .i64 a.2.2.2.2.1 (1:Int)))) 0)),(D.int .i64 (p.rdI a.1 (p.add 0 (p.nat (p.ar .sub .i64 a.2.2.2.2.1 (1:Int)))) 1))]) (p.add 0 (p.nat (p.ar .sub .i64 a.2.2.2.2.1 (1:Int)))) [(D.int .i64 (p.rdI a.1 (p.add 0 (p.nat a.2.2.2.2.1)) 0)),(D.int .i64 (p.rdI a.1 (p.add 0 (p.nat a.2.2.2.2.1)) 1))])))<|
 opt.ret _ (Sum.inl ((p.set (p.set a.1 (p.add 0 (p.nat a.2.2.2.2.1)) [(D.int .i64 (p.rdI a.1 (p.add 0 (p.nat (p.ar .sub .i64 a.2.2.2.2.1 (1:Int)))) 0)),(D.int .i64 (p.rdI a.1 (p.add 0 (p.nat (p.ar .sub .i64 a.2.2.2.2.1 (1:Int)))) 1))]) (p.add 0 (p.nat (p.ar .sub .i64 a.2.2.2.2.1 (1:Int)))) [(D.int .i64 (p.rdI a.1 (p.add 0 (p.nat a.2.2.2.2.1)) 0)),(D.int .i64 (p.rdI a.1 (p.add 0 (p.nat a.2.2.2.2.1)) 1))]),(a.2.1,(a.2.2.1,(a.2.2.2.1,((p.ar .sub .i64 a.2.2.2.2.1 (1:Int)),()))))))) (
 opt.need _ (p.eqN 0 0)<|
 opt.need _ (p.eqN (p.len a.1) (p.len a.1))<|
 opt.need _ (p.eqN (p.len a.1) (p.len a.1))<|
 opt.ret _ (Sum.inr (a.1,(a.2.1,(a.2.2.1,(a.2.2.2.1,()))))))) (
 opt.need _ (p.eqN 0 0)<|
 opt.need _ (p.eqN (p.len a.1) (p.len a.1))<|
 opt.need _ (p.eqN (p.len a.1) (p.len a.1))<|
 opt.ret _ (Sum.inr (a.1,(a.2.1,(a.2.2.1,(a.2.2.2.1,())))))))
def c108o_1 (it:It) (p:Prim):(LD×T6)→Option ((LD×T6)⊕(LD×Unit)):=
 fun a=>opt.run _ (
 opt.ask _ (p.cmp .lss a.2.2.2.1 a.2.2.1) (
 opt.need _ (p.eqN 0 0)<|
 opt.need _ (p.eqN (p.len a.1) (p.len a.1))<|
 opt.need _ (p.eqN (p.len a.1) (p.len a.1))<|
 opt.bnd ((LD×T6)) _ (
 it _ _ (c108o_2 it p) (a.1,(a.2.1,(a.2.2.1,(a.2.2.2.1,(a.2.2.2.1,())))))) fun b=>
 opt.need _ (p.eqN 0 0)<|
 opt.need _ (p.eqN (p.len b.1) (p.len b.1))<|
 opt.need _ (p.eqN (p.len b.1) (p.len b.1))<|
 opt.ret _ (Sum.inl (b.1,(b.2.1,(b.2.2.1,((p.ar .add .i64 b.2.2.2.1 (1:Int)),())))))) (
 opt.ret _ (Sum.inr (a.1,()))))
def g108o (it:It):(p:Prim)→(LD×T4)→Option ((LD×Unit)):=
 fun p x=>
 opt.need _ (p.eqN 0 0)<|
 opt.need _ (p.eqN (p.len x.1) (p.len x.1))<|
 opt.need _ (p.eqN (p.len x.1) (p.len x.1))<|
 opt.bnd ((LD×Unit)) _ (
 it _ _ (c108o_1 it p) (x.1,(x.2.1,(x.2.2.1,((p.ar .add .i64 x.2.1 (1:Int)),()))))) fun a=>
 opt.ret _ (a.1,())
def G108o:=g108o it0
theorem ok108o:CtrOk PG ctr108o (G108o std):=okF (a:=an108o) (l:=la108o) (gC ok87 (gN)) (by kernel_rfl) fun _ _=>by kernel_rfl
def ctr104o:Ctr:=
 ⟨104,[.full 0 2, .int .i64, .int .i64, .int .i64, .clo 87 [] []],[.row [ci,ci]],[(.ret,⟨[(0, .tuple [])],[.row [ci,ci]],1⟩)]⟩
def la104o:List LA:=
 [⟨104,[false,true,true],1,⟨⟨[(0, .full 0 2),(1, .int .i64),(2, .int .i64),(3, .int .i64),(4, .clo 87 [] []),(10, .bool),(11, .bool)],[.row [ci,ci]],148⟩,[(AX.ret,⟨[],[.row [ci,ci]],148⟩)]⟩⟩]
def ja104o:List JA:=
 []
def gam104o:List CF:=
 [⟨ctr111o,F111o⟩,⟨ctr110o,F110o⟩,⟨ctr109o,F109o⟩,⟨ctr108o,G108o⟩]
def an104o:Anns:=
 ⟨gam104o,ja104o,[]⟩
def c104o_1 (it:It) (p:Prim):(LD×T28)→Option ((LD×T28)⊕(LD×Unit)):=
 fun a=>opt.run _ (
 opt.ask _ (p.cmp .leq (p.ar .sub .i64 a.2.2.1 a.2.1) (12:Int)) (
 opt.need _ (p.eqN 0 0)<|
 opt.need _ (p.eqN (p.len a.1) (p.len a.1))<|
 opt.need _ (p.eqN (p.len a.1) (p.len a.1))<|
 opt.bnd ((LD×Unit)) _ (g108o it p (a.1,(a.2.1,(a.2.2.1,())))) fun b=>
 opt.ret _ (Sum.inr (b.1,()))) (
 opt.ask _ (p.cmp .eql a.2.2.2.1 (0:Int)) (
 opt.need _ (p.eqN 0 0)<|
 opt.need _ (p.eqN (p.len a.1) (p.len a.1))<|
 opt.need _ (p.eqN (p.len a.1) (p.len a.1))<|
 opt.no _ 81) (
 opt.ask _ (bif a.2.2.2.2.1 then Bool.false else Bool.true) (
 opt.need _ (p.eqN 0 0)<|
 opt.need _ (p.eqN (p.len a.1) (p.len a.1))<|
 opt.need _ (p.eqN (p.len a.1) (p.len a.1))<|
 opt.no _ 81) (
 opt.need _ (p.eqN 0 0)<|
 opt.need _ (p.eqN (p.len a.1) (p.len a.1))<|
 opt.need _ (p.eqN (p.len a.1) (p.len a.1))<|
 opt.no _ 81))))
def g104o (it:It):(p:Prim)→(LD×T6)→Option ((LD×Unit)):=
 fun p x=>
 opt.need _ (p.eqN 0 0)<|
 opt.need _ (p.eqN (p.len x.1) (p.len x.1))<|
 opt.need _ (p.eqN (p.len x.1) (p.len x.1))<|
 opt.bnd ((LD×Unit)) _ (
 it _ _ (c104o_1 it p) (x.1,(x.2.1,(x.2.2.1,(x.2.2.2.1,(Bool.true,(Bool.true,()))))))) fun a=>
 opt.ret _ (a.1,())
def G104o:=g104o it0
theorem ok104o:CtrOk PG ctr104o (G104o std):=okF (a:=an104o) (l:=la104o) (gC ok111o (gC ok110o (gC ok109o (gC ok108o (gN))))) (by kernel_rfl) fun _ _=>by kernel_rfl
def ctr97op:Ctr:=
 ⟨97,[.full 0 2, .clo 87 [] []],[.row [ci,ci]],[(.ret,⟨[(0, .tuple [])],[.row [ci,ci]],1⟩)]⟩
def la97op:List LA:=
 []
def ja97op:List JA:=
 []
def gam97op:List CF:=
 [⟨ctr104o,G104o⟩,⟨ctr105o,G105o⟩]
def an97op:Anns:=
 ⟨gam97op,ja97op,[]⟩
def g97op (it:It):(p:Prim)→(LD×Unit)→Option ((LD×Unit)):=
 fun p x=>
 opt.bnd T0 _ (G105o p ((p.cvt .u64 (p.ofNat (p.len x.1))),())) fun a=>
 opt.need _ (p.eqN 0 0)<|
 opt.need _ (p.eqN (p.len x.1) (p.len x.1))<|
 opt.need _ (p.eqN (p.len x.1) (p.len x.1))<|
 opt.bnd ((LD×Unit)) _ (g104o it p (x.1,((0:Int),((p.ofNat (p.len x.1)),(a.1,()))))) fun b=>
 opt.ret _ (b.1,())
def G97op:=g97op it0
theorem ok97op:CtrOk PG ctr97op (G97op std):=okF (a:=an97op) (l:=la97op) (gC ok104o (gC ok105o (gN))) (by kernel_rfl) fun _ _=>by kernel_rfl
end Go.Am
end
noncomputable section
namespace Go.Am
def ctr109t:Ctr:=
 ⟨109,[.vec 0 2, .int .i64, .int .i64, .clo 98 [] []],[.row [ci,ci]],[]⟩
def F109t:Prim→Tup (ctr109t).scs→Option (STup (scss (ctr109t).outs)):=
 fun _ _=>none
theorem enters109t:Enters Go.Proofs.Try.prog 109:=enters_auto (b:=_) rfl (by kernel_rfl)
theorem ok109t:CtrOk Go.Proofs.Try.prog ctr109t (F109t std):=⟨enters109t,fun x y h=>by cases h⟩
def ctr110t:Ctr:=
 ⟨110,[.vec 0 2, .int .i64, .int .i64, .clo 98 [] []],[.row [ci,ci]],[]⟩
def F110t:Prim→Tup (ctr110t).scs→Option (STup (scss (ctr110t).outs)):=
 fun _ _=>none
theorem enters110t:Enters Go.Proofs.Try.prog 110:=enters_auto (b:=_) rfl (by kernel_rfl)
theorem ok110t:CtrOk Go.Proofs.Try.prog ctr110t (F110t std):=⟨enters110t,fun x y h=>by cases h⟩
def ctr111t:Ctr:=
 ⟨111,[.vec 0 2, .int .i64, .int .i64, .clo 98 [] []],[.row [ci,ci]],[]⟩
def F111t:Prim→Tup (ctr111t).scs→Option (STup (scss (ctr111t).outs)):=
 fun _ _=>none
theorem enters111t:Enters Go.Proofs.Try.prog 111:=enters_auto (b:=_) rfl (by kernel_rfl)
theorem ok111t:CtrOk Go.Proofs.Try.prog ctr111t (F111t std):=⟨enters111t,fun x y h=>by cases h⟩
def ctr117t:Ctr:=
 ⟨117,[.int .u64],[],[(.ret,⟨[(0, .int .i64)],[],1⟩)]⟩
def la117t:List LA:=
 []
def ja117t:List JA:=
 [⟨117,[true,false,true,true],0,[(AX.normal,⟨[(0, .int .u64),(2, .int .i64)],[],25⟩)]⟩,
 ⟨117,[true,false,true],0,[(AX.normal,⟨[(0, .int .u64),(2, .int .i64)],[],25⟩)]⟩,
 ⟨117,[true,false,true,true,true],0,[(AX.normal,⟨[(0, .int .u64),(2, .int .i64)],[],25⟩)]⟩]
def gam117t:List CF:=
 []
def an117t:Anns:=
 ⟨gam117t,ja117t,[]⟩
def G117t:(p:Prim)→T1→Option T0:=
 fun p x=>
 opt.bnd T5 _ (
 opt.run T5 (
 opt.ask _ (p.cmp .geq x.1 (4294967296:Int)) (
 opt.need _ (p.cmp .geq (32:Int) (0:Int))<|
 opt.ret _ ((p.ar .shr .u64 x.1 (32:Int)),((32:Int),()))) (
 opt.ret _ (x.1,((0:Int),()))))) fun a=>
 opt.bnd T5 _ (
 opt.run T5 (
 opt.ask _ (p.cmp .geq a.1 (65536:Int)) (
 opt.need _ (p.cmp .geq (16:Int) (0:Int))<|
 opt.ret _ ((p.ar .shr .u64 a.1 (16:Int)),((p.ar .add .i64 a.2.1 (16:Int)),()))) (
 opt.ret _ (a.1,(a.2.1,()))))) fun b=>
 opt.bnd T5 _ (
 opt.run T5 (
 opt.ask _ (p.cmp .geq b.1 (256:Int)) (
 opt.need _ (p.cmp .geq (8:Int) (0:Int))<|
 opt.ret _ ((p.ar .shr .u64 b.1 (8:Int)),((p.ar .add .i64 b.2.1 (8:Int)),()))) (
 opt.ret _ (b.1,(b.2.1,()))))) fun c=>
 opt.need _ (bif (p.cmp .geq (p.cvt .u8 c.1) (0:Int)) then (p.cmp .lss (p.cvt .u8 c.1) (p.ofNat 256)) else Bool.false)<|
 opt.ret _ ((p.ar .add .i64 c.2.1 (p.cvt .i64 (p.byte (ByteArray.mk #[0,1,2,2,3,3,3,3,4,4,4,4,4,4,4,4,5,5,5,5,5,5,5,5,5,5,5,5,5,5,5,5,6,6,6,6,6,6,6,6,6,6,6,6,6,6,6,6,6,6,6,6,6,6,6,6,6,6,6,6,6,6,6,6,7,7,7,7,7,7,7,7,7,7,7,7,7,7,7,7,7,7,7,7,7,7,7,7,7,7,7,7,7,7,7,7,7,7,7,7,7,7,7,7,7,7,7,7,7,7,7,7,7,7,7,7,7,7,7,7,7,7,7,7,7,7,7,7,8,8,8,8,8,8,8,8,8,8,8,8,8,8,8,8,8,8,8,8,8,8,8,8,8,8,8,8,8,8,8,8,8,8,8,8,8,8,8,8,8,8,8,8,8,8,8,8,8,8,8,8,8,8,8,8,8,8,8,8,8,8,8,8,8,8,8,8,8,8,8,8,8,8,8,8,8,8,8,8,8,8,8,8,8,8,8,8,8,8,8,8,8,8,8,8,8,8,8,8,8,8,8,8,8,8,8,8,8,8,8,8,8,8,8,8,8,8,8,8,8,8,8,8,8,8,8,8]) (p.cvt .u8 c.1)))),())
theorem ok117t:CtrOk PG ctr117t (G117t std):=okF (a:=an117t) (l:=la117t) (gN) (by kernel_rfl) fun _ _=>by kernel_rfl
def ctr105t:Ctr:=
 ⟨105,[.int .u64],[],[(.ret,⟨[(0, .int .i64)],[],1⟩)]⟩
def la105t:List LA:=
 []
def ja105t:List JA:=
 []
def gam105t:List CF:=
 [⟨ctr117t,G117t⟩]
def an105t:Anns:=
 ⟨gam105t,ja105t,[]⟩
def G105t:(p:Prim)→T1→Option T0:=
 fun p x=>
 opt.bnd T0 _ (G117t p (x.1,())) fun a=>
 opt.ret _ (a.1,())
theorem ok105t:CtrOk PG ctr105t (G105t std):=okF (a:=an105t) (l:=la105t) (gC ok117t (gN)) (by kernel_rfl) fun _ _=>by kernel_rfl
def ctr108t:Ctr:=
 ⟨108,[.vec 0 2, .int .i64, .int .i64, .clo 98 [] []],[.row [ci,ci]],[(.ret,⟨[(0, .tuple [])],[.row [ci,ci]],1⟩)]⟩
def la108t:List LA:=
 [⟨108,[false,true],1,⟨⟨[(0, .vec 0 2),(1, .int .i64),(2, .int .i64),(3, .clo 98 [] []),(8, .int .i64)],[.row [ci,ci]],53⟩,[((AX.exit 0),⟨[],[.row [ci,ci]],53⟩)]⟩⟩,
 ⟨108,[false,true,false,false,true,false,false,true],1,⟨⟨[(0, .vec 0 2),(1, .int .i64),(2, .int .i64),(3, .clo 98 [] []),(8, .int .i64),(9, .int .i64)],[.row [ci,ci]],53⟩,[((AX.exit 2),⟨[(0, .vec 0 2),(1, .int .i64),(2, .int .i64),(3, .clo 98 [] []),(8, .int .i64)],[.row [ci,ci]],53⟩)]⟩⟩]
def ja108t:List JA:=
 []
def gam108t:List CF:=
 [⟨ctr98,G98⟩]
def an108t:Anns:=
 ⟨gam108t,ja108t,[]⟩
def b108t_2 (p:Prim):(LD×T11)→Option ((LD×T11)⊕(LD×T6)):=
 fun a=>opt.run _ (
 opt.ask _ (p.cmp .gtr a.2.2.2.2.1 a.2.1) (
 opt.need _ (bif (p.cmp .geq a.2.2.2.2.1 (0:Int)) then (p.cmp .lss a.2.2.2.2.1 (p.ofNat (p.len a.1))) else Bool.false)<|
 opt.need _ (p.rowOk a.1 (p.add 0 (p.nat a.2.2.2.2.1)) [ci,ci])<|
 opt.need _ (bif (p.cmp .geq (p.ar .sub .i64 a.2.2.2.2.1 (1:Int)) (0:Int)) then (p.cmp .lss (p.ar .sub .i64 a.2.2.2.2.1 (1:Int)) (p.ofNat (p.len a.1))) else Bool.false)<|
 opt.need _ (p.rowOk a.1 (p.add 0 (p.nat (p.ar .sub .i64 a.2.2.2.2.1 (1:Int)))) [ci,ci])<|
 opt.bnd T0 _ (G98 p ((p.rdI a.1 (p.add 0 (p.nat a.2.2.2.2.1)) 0),((p.rdI a.1 (p.add 0 (p.nat a.2.2.2.2.1)) 1),((p.rdI a.1 (p.add 0 (p.nat (p.ar .sub .i64 a.2.2.2.2.1 (1:Int)))) 0),((p.rdI a.1 (p.add 0 (p.nat (p.ar .sub .i64 a.2.2.2.2.1 (1:Int)))) 1),()))))) fun b=>
 opt.ask _ (p.cmp .lss b.1 (0:Int)) (
 opt.need _ (bif (p.cmp .geq (p.ar .sub .i64 a.2.2.2.2.1 (1:Int)) (0:Int)) then (p.cmp .lss (p.ar .sub .i64 a.2.2.2.2.1 (1:Int)) (p.ofNat (p.len a.1))) else Bool.false)<|
 opt.need _ (p.rowOk a.1 (p.add 0 (p.nat (p.ar .sub .i64 a.2.2.2.2.1 (1:Int)))) [ci,ci])<|
 opt.need _ (bif (p.cmp .geq a.2.2.2.2.1 (0:Int)) then (p.cmp .lss a.2.2.2.2.1 (p.ofNat (p.len a.1))) else Bool.false)<|
 opt.need _ (p.rowOk a.1 (p.add 0 (p.nat a.2.2.2.2.1)) [ci,ci])<|
 opt.need _ (bif (p.cmp .geq a.2.2.2.2.1 (0:Int)) then (p.cmp .lss a.2.2.2.2.1 (p.ofNat (p.len a.1))) else Bool.false)<|
 opt.need _ (p.rowOk a.1 (p.add 0 (p.nat a.2.2.2.2.1)) [ci,ci])<|
 opt.need _ (bif (p.cmp .geq (p.ar .sub .i64 a.2.2.2.2.1 (1:Int)) (0:Int)) then (p.cmp .lss (p.ar .sub .i64 a.2.2.2.2.1 (1:Int)) (p.ofNat (p.len a.1))) else Bool.false)<|
 opt.need _ (p.rowOk (p.set a.1 (p.add 0 (p.nat a.2.2.2.2.1)) [(D.int .i64 (p.rdI a.1 (p.add 0 (p.nat (p.ar .sub .i64 a.2.2.2.2.1 (1:Int)))) 0)),(D.int .i64 (p.rdI a.1 (p.add 0 (p.nat (p.ar .sub .i64 a.2.2.2.2.1 (1:Int)))) 1))]) (p.add 0 (p.nat (p.ar .sub .i64 a.2.2.2.2.1 (1:Int)))) [ci,ci])<|
 opt.need _ (p.eqN 0 0)<|
 opt.need _ (p.eqN (p.len a.1) (p.len (p.set (p.set a.1 (p.add 0 (p.nat a.2.2.2.2.1)) [(D.int .i64 (p.rdI a.1 (p.add 0 (p.nat (p.ar .sub .i64 a.2.2.2.2.1 (1:Int)))) 0)),(D.int .i64 (p.rdI a.1 (p.add 0 (p.nat (p.ar .sub .i64 a.2.2.2.2.1 (1:Int)))) 1))]) (p.add 0 (p.nat (p.ar .sub .i64 a.2.2.2.2.1 (1:Int)))) [(D.int .i64 (p.rdI a.1 (p.add 0 (p.nat a.2.2.2.2.1)) 0)),(D.int .i64 (p.rdI a.1 (p.add 0 (p.nat a.2.2.2.2.1)) 1))])))<|
 opt.ret _ (Sum.inl ((p.set (p.set a.1 (p.add 0 (p.nat a.2.2.2.2.1)) [(D.int .i64 (p.rdI a.1 (p.add 0 (p.nat (p.ar .sub .i64 a.2.2.2.2.1 (1:Int)))) 0)),(D.int .i64 (p.rdI a.1 (p.add 0 (p.nat (p.ar .sub .i64 a.2.2.2.2.1 (1:Int)))) 1))]) (p.add 0 (p.nat (p.ar .sub .i64 a.2.2.2.2.1 (1:Int)))) [(D.int .i64 (p.rdI a.1 (p.add 0 (p.nat a.2.2.2.2.1)) 0)),(D.int .i64 (p.rdI a.1 (p.add 0 (p.nat a.2.2.2.2.1)) 1))]),(a.2.1,(a.2.2.1,(a.2.2.2.1,((p.ar .sub .i64 a.2.2.2.2.1 (1:Int)),()))))))) (
 opt.need _ (p.eqN 0 0)<|
 opt.need _ (p.eqN (p.len a.1) (p.len a.1))<|
 opt.ret _ (Sum.inr (a.1,(a.2.1,(a.2.2.1,(a.2.2.2.1,()))))))) (
 opt.need _ (p.eqN 0 0)<|
 opt.need _ (p.eqN (p.len a.1) (p.len a.1))<|
 opt.ret _ (Sum.inr (a.1,(a.2.1,(a.2.2.1,(a.2.2.2.1,())))))))
def c108t_1 (it:It) (p:Prim):(LD×T6)→Option ((LD×T6)⊕(LD×Unit)):=
 fun a=>opt.run _ (
 opt.ask _ (p.cmp .lss a.2.2.2.1 a.2.2.1) (
 opt.need _ (p.eqN 0 0)<|
 opt.need _ (p.eqN (p.len a.1) (p.len a.1))<|
 opt.bnd ((LD×T6)) _ (
 it _ _ (b108t_2 p) (a.1,(a.2.1,(a.2.2.1,(a.2.2.2.1,(a.2.2.2.1,())))))) fun b=>
 opt.need _ (p.eqN 0 0)<|
 opt.need _ (p.eqN (p.len b.1) (p.len b.1))<|
 opt.ret _ (Sum.inl (b.1,(b.2.1,(b.2.2.1,((p.ar .add .i64 b.2.2.2.1 (1:Int)),())))))) (
 opt.ret _ (Sum.inr (a.1,()))))
def g108t (it:It):(p:Prim)→(LD×T4)→Option ((LD×Unit)):=
 fun p x=>
 opt.need _ (p.eqN 0 0)<|
 opt.need _ (p.eqN (p.len x.1) (p.len x.1))<|
 opt.bnd ((LD×Unit)) _ (
 it _ _ (c108t_1 it p) (x.1,(x.2.1,(x.2.2.1,((p.ar .add .i64 x.2.1 (1:Int)),()))))) fun a=>
 opt.ret _ (a.1,())
def G108t:=g108t it0
theorem ok108t:CtrOk PG ctr108t (G108t std):=okF (a:=an108t) (l:=la108t) (gC ok98 (gN)) (by kernel_rfl) fun _ _=>by kernel_rfl
def ctr104t:Ctr:=
 ⟨104,[.vec 0 2, .int .i64, .int .i64, .int .i64, .clo 98 [] []],[.row [ci,ci]],[(.ret,⟨[(0, .tuple [])],[.row [ci,ci]],1⟩)]⟩
def la104t:List LA:=
 [⟨104,[false,true,true],1,⟨⟨[(0, .vec 0 2),(1, .int .i64),(2, .int .i64),(3, .int .i64),(4, .clo 98 [] []),(10, .bool),(11, .bool)],[.row [ci,ci]],148⟩,[(AX.ret,⟨[],[.row [ci,ci]],148⟩)]⟩⟩]
def ja104t:List JA:=
 []
def gam104t:List CF:=
 [⟨ctr111t,F111t⟩,⟨ctr110t,F110t⟩,⟨ctr109t,F109t⟩,⟨ctr108t,G108t⟩]
def an104t:Anns:=
 ⟨gam104t,ja104t,[]⟩
def c104t_1 (it:It) (p:Prim):(LD×T28)→Option ((LD×T28)⊕(LD×Unit)):=
 fun a=>opt.run _ (
 opt.ask _ (p.cmp .leq (p.ar .sub .i64 a.2.2.1 a.2.1) (12:Int)) (
 opt.need _ (p.eqN 0 0)<|
 opt.need _ (p.eqN (p.len a.1) (p.len a.1))<|
 opt.bnd ((LD×Unit)) _ (g108t it p (a.1,(a.2.1,(a.2.2.1,())))) fun b=>
 opt.ret _ (Sum.inr (b.1,()))) (
 opt.ask _ (p.cmp .eql a.2.2.2.1 (0:Int)) (
 opt.need _ (p.eqN 0 0)<|
 opt.need _ (p.eqN (p.len a.1) (p.len a.1))<|
 opt.no _ 81) (
 opt.ask _ (bif a.2.2.2.2.1 then Bool.false else Bool.true) (
 opt.need _ (p.eqN 0 0)<|
 opt.need _ (p.eqN (p.len a.1) (p.len a.1))<|
 opt.no _ 81) (
 opt.need _ (p.eqN 0 0)<|
 opt.need _ (p.eqN (p.len a.1) (p.len a.1))<|
 opt.no _ 81))))
def g104t (it:It):(p:Prim)→(LD×T6)→Option ((LD×Unit)):=
 fun p x=>
 opt.need _ (p.eqN 0 0)<|
 opt.need _ (p.eqN (p.len x.1) (p.len x.1))<|
 opt.bnd ((LD×Unit)) _ (
 it _ _ (c104t_1 it p) (x.1,(x.2.1,(x.2.2.1,(x.2.2.2.1,(Bool.true,(Bool.true,()))))))) fun a=>
 opt.ret _ (a.1,())
def G104t:=g104t it0
theorem ok104t:CtrOk PG ctr104t (G104t std):=okF (a:=an104t) (l:=la104t) (gC ok111t (gC ok110t (gC ok109t (gC ok108t (gN))))) (by kernel_rfl) fun _ _=>by kernel_rfl
def ctr97tp:Ctr:=
 ⟨97,[.vec 0 2, .clo 98 [] []],[.row [ci,ci]],[(.ret,⟨[(0, .tuple [])],[.row [ci,ci]],1⟩)]⟩
def la97tp:List LA:=
 []
def ja97tp:List JA:=
 []
def gam97tp:List CF:=
 [⟨ctr104t,G104t⟩,⟨ctr105t,G105t⟩]
def an97tp:Anns:=
 ⟨gam97tp,ja97tp,[]⟩
def g97tp (it:It):(p:Prim)→(LD×Unit)→Option ((LD×Unit)):=
 fun p x=>
 opt.bnd T0 _ (G105t p ((p.cvt .u64 (p.ofNat (p.len x.1))),())) fun a=>
 opt.need _ (p.eqN 0 0)<|
 opt.need _ (p.eqN (p.len x.1) (p.len x.1))<|
 opt.bnd ((LD×Unit)) _ (g104t it p (x.1,((0:Int),((p.ofNat (p.len x.1)),(a.1,()))))) fun b=>
 opt.ret _ (b.1,())
def G97tp:=g97tp it0
theorem ok97tp:CtrOk PG ctr97tp (G97tp std):=okF (a:=an97tp) (l:=la97tp) (gC ok104t (gC ok105t (gN))) (by kernel_rfl) fun _ _=>by kernel_rfl
end Go.Am
end
section
namespace Go.Proofs
open Go.RowKit Go.Sort Go.Shelf
def laySortFRen:Go.Shelf.Ren:=⟨fun|57=>123|46=>118|48=>120|47=>119|50=>122|49=>121|29=>117|28=>116|27=>115|26=>114|25=>113|24=>112|23=>111|22=>110|21=>109|20=>108|14=>104|15=>105|6=>97|n=>n,fun|77=>172|76=>171|66=>165|70=>169|9=>9|5=>5|55=>164|53=>162|50=>159|45=>154|46=>155|4=>4|0=>0|39=>149|3=>3|25=>131|24=>86|22=>82|n=>n,fun|n=>n⟩
theorem laySortF : Go.Proofs.SlLaysF0.n6 Try.prog laySortFRen :=
  { mixed := by kernel_rfl,
    f6 := by first | exact ⟨Try.f97.name, by decide, Try.func97.trans (congrArg some (by kernel_rfl))⟩ | exact Try.func97.trans (congrArg some (by kernel_rfl)),
    f14 := by first | exact ⟨Try.f104.name, by decide, Try.func104.trans (congrArg some (by kernel_rfl))⟩ | exact Try.func104.trans (congrArg some (by kernel_rfl)),
    f15 := by first | exact ⟨Try.f105.name, by decide, Try.func105.trans (congrArg some (by kernel_rfl))⟩ | exact Try.func105.trans (congrArg some (by kernel_rfl)),
    f20 := by first | exact ⟨Try.f108.name, by decide, Try.func108.trans (congrArg some (by kernel_rfl))⟩ | exact Try.func108.trans (congrArg some (by kernel_rfl)),
    f21 := by first | exact ⟨Try.f109.name, by decide, Try.func109.trans (congrArg some (by kernel_rfl))⟩ | exact Try.func109.trans (congrArg some (by kernel_rfl)),
    f22 := by first | exact ⟨Try.f110.name, by decide, Try.func110.trans (congrArg some (by kernel_rfl))⟩ | exact Try.func110.trans (congrArg some (by kernel_rfl)),
    f23 := by first | exact ⟨Try.f111.name, by decide, Try.func111.trans (congrArg some (by kernel_rfl))⟩ | exact Try.func111.trans (congrArg some (by kernel_rfl)),
    f24 := by first | exact ⟨Try.f112.name, by decide, Try.func112.trans (congrArg some (by kernel_rfl))⟩ | exact Try.func112.trans (congrArg some (by kernel_rfl)),
    f25 := by first | exact ⟨Try.f113.name, by decide, Try.func113.trans (congrArg some (by kernel_rfl))⟩ | exact Try.func113.trans (congrArg some (by kernel_rfl)),
    f26 := by first | exact ⟨Try.f114.name, by decide, Try.func114.trans (congrArg some (by kernel_rfl))⟩ | exact Try.func114.trans (congrArg some (by kernel_rfl)),
    f27 := by first | exact ⟨Try.f115.name, by decide, Try.func115.trans (congrArg some (by kernel_rfl))⟩ | exact Try.func115.trans (congrArg some (by kernel_rfl)),
    f28 := by first | exact ⟨Try.f116.name, by decide, Try.func116.trans (congrArg some (by kernel_rfl))⟩ | exact Try.func116.trans (congrArg some (by kernel_rfl)),
    f29 := by first | exact ⟨Try.f117.name, by decide, Try.func117.trans (congrArg some (by kernel_rfl))⟩ | exact Try.func117.trans (congrArg some (by kernel_rfl)),
    f46 := by first | exact ⟨Try.f118.name, by decide, Try.func118.trans (congrArg some (by kernel_rfl))⟩ | exact Try.func118.trans (congrArg some (by kernel_rfl)),
    f47 := by first | exact ⟨Try.f119.name, by decide, Try.func119.trans (congrArg some (by kernel_rfl))⟩ | exact Try.func119.trans (congrArg some (by kernel_rfl)),
    f48 := by first | exact ⟨Try.f120.name, by decide, Try.func120.trans (congrArg some (by kernel_rfl))⟩ | exact Try.func120.trans (congrArg some (by kernel_rfl)),
    f49 := by first | exact ⟨Try.f121.name, by decide, Try.func121.trans (congrArg some (by kernel_rfl))⟩ | exact Try.func121.trans (congrArg some (by kernel_rfl)),
    f50 := by first | exact ⟨Try.f122.name, by decide, Try.func122.trans (congrArg some (by kernel_rfl))⟩ | exact Try.func122.trans (congrArg some (by kernel_rfl)),
    f57 := by first | exact ⟨Try.f123.name, by decide, Try.func123.trans (congrArg some (by kernel_rfl))⟩ | exact Try.func123.trans (congrArg some (by kernel_rfl)),
    t0 := by exact Try.underlying0,
    a0 := by exact Try.isAgg0,
    z0 := by exact Try.sizeOf0,
    v0 := by exact Try.zeroValue0,
    t3 := by exact Try.underlying3,
    a3 := by exact Try.isAgg3,
    z3 := by exact Try.sizeOf3,
    v3 := by exact Try.zeroValue3,
    t4 := by exact Try.underlying4,
    a4 := by exact Try.isAgg4,
    z4 := by exact Try.sizeOf4,
    v4 := by exact Try.zeroValue4,
    t5 := by exact Try.underlying5,
    a5 := by exact Try.isAgg5,
    z5 := by exact Try.sizeOf5,
    v5 := by exact Try.zeroValue5,
    t9 := by exact Try.underlying9,
    a9 := by exact Try.isAgg9,
    z9 := by exact Try.sizeOf9,
    v9 := by exact Try.zeroValue9,
    t22 := by exact Try.underlying82,
    a22 := by exact Try.isAgg82,
    z22 := by exact Try.sizeOf82,
    v22 := by exact Try.zeroValue82,
    t25 := by exact Try.underlying131,
    a25 := by exact Try.isAgg131,
    z25 := by exact Try.sizeOf131,
    v25 := by exact Try.zeroValue131,
    t39 := by exact Try.underlying149,
    a39 := by exact Try.isAgg149,
    z39 := by exact Try.sizeOf149,
    v39 := by exact Try.zeroValue149,
    t45 := by exact Try.underlying154,
    a45 := by exact Try.isAgg154,
    z45 := by exact Try.sizeOf154,
    v45 := by exact Try.zeroValue154,
    t46 := by exact Try.underlying155,
    a46 := by exact Try.isAgg155,
    z46 := by exact Try.sizeOf155,
    v46 := by exact Try.zeroValue155,
    t50 := by exact Try.underlying159,
    a50 := by exact Try.isAgg159,
    z50 := by exact Try.sizeOf159,
    v50 := by exact Try.zeroValue159,
    t53 := by exact Try.underlying162,
    a53 := by exact Try.isAgg162,
    z53 := by exact Try.sizeOf162,
    v53 := by exact Try.zeroValue162,
    t55 := by exact Try.underlying164,
    a55 := by exact Try.isAgg164,
    z55 := by exact Try.sizeOf164,
    v55 := by exact Try.zeroValue164,
    t66 := by exact Try.underlying165,
    a66 := by exact Try.isAgg165,
    z66 := by exact Try.sizeOf165,
    v66 := by exact Try.zeroValue165,
    t70 := by exact Try.underlying169,
    a70 := by exact Try.isAgg169,
    z70 := by exact Try.sizeOf169,
    v70 := by exact Try.zeroValue169,
    t76 := by exact Try.underlying171,
    a76 := by exact Try.isAgg171,
    z76 := by exact Try.sizeOf171,
    v76 := by exact Try.zeroValue171,
    t77 := by exact Try.underlying172,
    a77 := by exact Try.isAgg172,
    z77 := by exact Try.sizeOf172,
    v77 := by exact Try.zeroValue172 }
end Go.Proofs
namespace Go.Am
open Go.Proofs Go.Sort Go.Shelf M06
theorem cmpZ_lt {a b:Int}:cmpZ a b<0↔a<b:=by unfold cmpZ; omega
theorem cmpZ_ne {a b:Int}:cmpZ a b≠0↔a≠b:=by unfold cmpZ; omega
theorem ltOf_iff {α:Type} {cf:α→α→Int} {x y:α}:ltOf cf x y=true↔cf x y<0:=decide_eq_true_iff
theorem ordC_neg {x y:Int×Int}:ordC x y<0↔Lt x y:=by
 simp only [Lt,Pos,sb]
 unfold ordC
 by_cases h:x.1=y.1
 ·have:¬ cmpZ x.1 y.1≠0:=by rw [cmpZ_ne]; omega
  rw [if_neg this,cmpZ_lt]; omega
 ·have:cmpZ x.1 y.1≠0:=by rw [cmpZ_ne]; omega
  rw [if_pos this,cmpZ_lt]; omega
theorem ordC_lt {x y:Int×Int}:ltOf ordC x y=true↔Lt x y:=ltOf_iff.trans ordC_neg
theorem swo_ord:SWO (ltOf ordC) where
 irrefl:=fun x=>by
  cases h:ltOf ordC x x with
  |false=>rfl
  |true=>exact (ordC_lt.1 h).irrefl.elim
 trans:=fun x y z h1 h2=>ordC_lt.2 ((ordC_lt.1 h1).trans (ordC_lt.1 h2))
 ntrans:=fun x y z h1 h2=>by
  cases h:ltOf ordC x z with
  |false=>rfl
  |true=>
   have h:=ordC_lt.1 h
   have a:¬ Lt x y:=fun k=>by rw [ordC_lt.2 k] at h1; cases h1
   have b:¬ Lt y z:=fun k=>by rw [ordC_lt.2 k] at h2; cases h2
   exfalso
   rcases lt_tri x y with k|k|k
   ·exact a k
   ·exact b (k▸h)
   ·exact b (k.trans h)
abbrev Wy:Type:={ p:Int×Int // Small p∧p≠(0,0) }
instance:Inhabited Wy:=⟨⟨(1,0),by unfold Small; decide,by decide⟩⟩
def ng2 (a:Pt):Pt:=(-a.1, -a.2)
theorem back_pos {p:Int×Int} (h:p≠(0,0)):(backC p=false↔Pos p)∧(backC p=true↔Pos (ng2 p)):=by
 obtain ⟨a,b⟩:=p
 have h:¬ (a=0∧b=0):=by simpa using h
 simp only [backC,decide_eq_false_iff_not,decide_eq_true_eq,Pos,ng2]
 omega
theorem cmpZ0_lt {c:Int}:cmpZ 0 c<0↔0<c:=cmpZ_lt
theorem turnC_neg {x y:Int×Int}:turnC x y<0↔(backC x=false∧backC y=true)∨(backC x=backC y∧0<crs x y):=by
 unfold turnC
 have e:crs x y=x.1*y.2 - x.2*y.1:=rfl
 rw [e]
 cases hx:backC x<;>cases hy:backC y<;>simp [cmpZ0_lt]
theorem turnC_lt {x y:Wy}:ltOf (fun x y:Wy=>turnC x.1 y.1) x y=true↔(backC x.1=false∧backC y.1=true)∨(backC x.1=backC y.1∧0<crs x.1 y.1):=ltOf_iff.trans turnC_neg
theorem crs_ng (u v:Pt):crs (ng2 u) (ng2 v)=crs u v:=by simp only [crs,ng2]; grind
theorem turn_trans {x y z:Wy} (hxy:backC x.1=backC y.1) (hyz:backC y.1=backC z.1) (h1:0≤crs x.1 y.1) (h2:0≤crs y.1 z.1):0≤crs x.1 z.1∧(0<crs x.1 y.1∨0<crs y.1 z.1→0<crs x.1 z.1):=by
 cases hx:backC x.1 with
 |false=>
  have a:=(back_pos x.2.2).1.1 hx
  have b:=(back_pos y.2.2).1.1 (hxy▸hx)
  have c:=(back_pos z.2.2).1.1 (hyz▸hxy▸hx)
  exact ⟨crs_trans a b c h1 h2,crs_trans_lt a b c h1 h2⟩
 |true=>
  have a:=(back_pos x.2.2).2.1 hx
  have b:=(back_pos y.2.2).2.1 (hxy▸hx)
  have c:=(back_pos z.2.2).2.1 (hyz▸hxy▸hx)
  rw [←crs_ng] at h1 h2
  rw [←crs_ng x.1 z.1, ←crs_ng x.1 y.1, ←crs_ng y.1 z.1]
  exact ⟨crs_trans a b c h1 h2,crs_trans_lt a b c h1 h2⟩
theorem crs_anti (u v:Pt):crs u v= - crs v u:=by simp only [crs]; grind
theorem swo_turn:SWO (ltOf (fun x y:Wy=>turnC x.1 y.1)) where
 irrefl:=fun x=>by
  cases h:ltOf (fun x y:Wy=>turnC x.1 y.1) x x with
  |false=>rfl
  |true=>
   rcases turnC_lt.1 h with ⟨a,b⟩|⟨_,b⟩
   ·rw [a] at b; cases b
   ·have:=crs_anti x.1 x.1; omega
 trans:=fun x y z h1 h2=>by
  rcases turnC_lt.1 h1 with ⟨a,b⟩|⟨a,b⟩<;>rcases turnC_lt.1 h2 with ⟨c,d⟩|⟨c,d⟩
  ·rw [b] at c; cases c
  ·exact turnC_lt.2 (.inl ⟨a,c▸b⟩)
  ·exact turnC_lt.2 (.inl ⟨a▸c,d⟩)
  ·exact turnC_lt.2 (.inr ⟨a.trans c,(turn_trans a c (by omega) (by omega)).2 (.inl b)⟩)
 ntrans:=fun x y z h1 h2=>by
  cases h:ltOf (fun x y:Wy=>turnC x.1 y.1) x z with
  |false=>rfl
  |true=>
   exfalso
   have n1:¬ ((backC x.1=false∧backC y.1=true)∨(backC x.1=backC y.1∧0<crs x.1 y.1)):=fun k=>by rw [turnC_lt.2 k] at h1; cases h1
   have n2:¬ ((backC y.1=false∧backC z.1=true)∨(backC y.1=backC z.1∧0<crs y.1 z.1)):=fun k=>by rw [turnC_lt.2 k] at h2; cases h2
   have n3:=turnC_lt.1 h
   cases hx:backC x.1<;>cases hy:backC y.1<;>cases hz:backC z.1<;>rw [hx,hy] at n1<;>rw [hy,hz] at n2<;>rw [hx,hz] at n3<;>simp at n1 n2 n3
   ·have e1:=crs_anti x.1 y.1; have e2:=crs_anti y.1 z.1; have e3:=crs_anti x.1 z.1
    have:=(turn_trans (x:=z) (y:=y) (z:=x) (by rw [hz,hy]) (by rw [hy,hx]) (by omega) (by omega)).1
    omega
   ·have e1:=crs_anti x.1 y.1; have e2:=crs_anti y.1 z.1; have e3:=crs_anti x.1 z.1
    have:=(turn_trans (x:=z) (y:=y) (z:=x) (by rw [hz,hy]) (by rw [hy,hx]) (by omega) (by omega)).1
    omega
theorem oneV2 {α:Type} (f:α→Int×Int):∀ x,∀ v∈enV2 f x,v.oneCell'=true:=by
 intro x v hv
 simp only [enV2,List.mem_cons,List.not_mem_nil,or_false] at hv
 rcases hv with rfl|rfl<;>rfl
theorem sortCall_o:SortCall Go.Proofs.Try.prog 97 87 ordC id:=fun blk off cap d w hc hH hb hs=>
 AnyQ.slices_SortFunc_eq laySortF 2 Try.isAgg86 Try.sizeOf86 (enV2 id) (fun _=>rfl) (oneV2 id) ordC swo_ord 87 #[] blk off cap d w (fun args w=>enters87 args w) hc hH hb hs
theorem sortCall_t:SortCall Go.Proofs.Try.prog 97 98 (fun x y:Wy=>turnC x.1 y.1) Subtype.val:=fun blk off cap d w hc hH hb hs=>
 AnyQ.slices_SortFunc_eq laySortF 2 Try.isAgg86 Try.sizeOf86 (enV2 Subtype.val) (fun _=>rfl) (oneV2 Subtype.val) _ swo_turn 98 #[] blk off cap d w (fun args w=>enters98 args w) hc hH hb hs
theorem cmp_o (x y:Int×Int):ARet Go.Proofs.Try.prog 87 (toA [.agg (enR2 id x), .agg (enR2 id y)]) [] (.d (.int .i64 (ordC x y))) []:=
 (ok87.2 (x.1,x.2,y.1,y.2,()) (ordC x y,()) (G87_ok x y)).2
theorem cmp_t (x y:Wy):ARet Go.Proofs.Try.prog 98 (toA [.agg (enR2 Subtype.val x), .agg (enR2 Subtype.val y)]) [] (.d (.int .i64 (turnC x.1 y.1))) []:=
 (ok98.2 (x.1.1,x.1.2,y.1.1,y.1.2,()) (turnC x.1 y.1,()) (G98_ok x.2.1 y.2.1)).2
def dPt:List D→Option (Int×Int)
 |[.int .i64 a, .int .i64 b]=>some (a,b)
 |_=>none
def dAll:List (List D)→Option (List (Int×Int))
 |[]=>some []
 |r::l=>match dPt r,dAll l with
  |some p,some t=>some (p::t)
  |_,_=>none
theorem dPt_ok {r:List D} {p:Int×Int} (h:dPt r=some p):r=enR2 id p:=by
 unfold dPt at h
 split at h
 ·cases h; rfl
 ·cases h
theorem dAll_ok:∀ {es:List (List D)} {l:List (Int×Int)},dAll es=some l→es=l.map (enR2 id)
 |[],l,h=>by cases h; rfl
 |r::es,l,h=>by
  simp only [dAll] at h
  cases hp:dPt r with
  |none=>rw [hp] at h; cases h
  |some p=>
   rw [hp] at h
   cases ht:dAll es with
   |none=>rw [ht] at h; cases h
   |some t=>
    rw [ht] at h; cases h
    rw [List.map_cons, ←dPt_ok hp, ←dAll_ok ht]
instance (p:Int×Int):Decidable (Small p):=by unfold Small; infer_instance
def dWy:List (Int×Int)→Option (List Wy)
 |[]=>some []
 |p::l=>match dWy l with
  |some t=>if h:Small p∧p≠(0,0) then some (⟨p,h⟩::t) else none
  |none=>none
theorem dWy_ok:∀ {l:List (Int×Int)} {t:List Wy},dWy l=some t→l=t.map Subtype.val
 |[],t,h=>by cases h; rfl
 |p::l,t,h=>by
  simp only [dWy] at h
  cases ht:dWy l with
  |none=>rw [ht] at h; cases h
  |some u=>
   rw [ht] at h
   simp only at h
   split at h
   ·cases h; rw [dWy_ok ht]; rfl
   ·cases h
def q97o (x:List (List D)×Unit):Option (List (List D)×Unit):=
 match dAll x.1 with
 |some (p::l)=>if l.length≤1000000 then some ((pdq (ltOf ordC) (p::l).toArray 0 (p::l).toArray.size (Lib.bitLen (p::l).toArray.size) true true).toList.map (enR2 id),()) else none
 |_=>none
def q97t (x:List (List D)×Unit):Option (List (List D)×Unit):=
 match (dAll x.1).bind dWy with
 |some (p::l)=>if l.length≤1000000 then some ((pdq (ltOf (fun x y:Wy=>turnC x.1 y.1)) (p::l).toArray 0 (p::l).toArray.size (Lib.bitLen (p::l).toArray.size) true true).toList.map (enR2 Subtype.val),()) else none
 |_=>none
noncomputable def ctr97o:Ctr:=ctr97op
noncomputable def ctr97t:Ctr:=ctr97tp
noncomputable def g97o (it:It):(p:Prim)→(List (List (Go.Am.D))×Unit)→Option ((List (List (Go.Am.D))×Unit)):=
 fun p x=>bif Nat.ble x.1.length 12 then (g97op it p x) else (q97o x)
noncomputable def G97o:=g97o it0
noncomputable def F97o:Prim→Tup (ctr97o).scs→Option (STup (scss (ctr97o).outs)):=
 fun p x=>G97o p x
noncomputable def g97t (it:It):(p:Prim)→(List (List (Go.Am.D))×Unit)→Option ((List (List (Go.Am.D))×Unit)):=
 fun p x=>bif Nat.ble x.1.length 12 then (g97tp it p x) else (q97t x)
noncomputable def G97t:=g97t it0
noncomputable def F97t:Prim→Tup (ctr97t).scs→Option (STup (scss (ctr97t).outs)):=
 fun p x=>G97t p x
theorem ok97o:CtrOk Go.Proofs.Try.prog ctr97o (F97o std):=by
 refine ⟨ok97op.1,fun x y hy=>?_⟩
 obtain ⟨es,u⟩:=x
 change (bif Nat.ble es.length 12 then (G97op std (es,())) else q97o (es,()))=some y at hy
 cases hb:Nat.ble es.length 12 with
 |true=>rw [hb] at hy; exact ok97op.2 (es,()) y hy
 |false=>
  rw [hb] at hy
  simp only [cond_false,q97o] at hy
  split at hy
  ·rename_i p l hd
   split at hy
   ·rename_i hl
    cases hy
    have he:=dAll_ok hd
    have key:=sort_aret (P:=Go.Proofs.Try.prog) swo_ord sortCall_o cmp_o (d:=(p::l).toArray) (by simp) (by simp; omega) (some (p::l).toArray.size)
    have hes:es=(p::l).toArray.toList.map (enR2 id):=he
    have hlen:(p::l).toArray.size=es.length:=by rw [he]; simp
    rw [←hes] at key
    refine ⟨by show 1≤1; omega,?_⟩
    have key':=key
    rw [hlen] at key'
    rw [hlen]
    exact key'
   ·cases hy
  ·cases hy
theorem ok97t:CtrOk Go.Proofs.Try.prog ctr97t (F97t std):=by
 refine ⟨ok97tp.1,fun x y hy=>?_⟩
 obtain ⟨es,u⟩:=x
 change (bif Nat.ble es.length 12 then (G97tp std (es,())) else q97t (es,()))=some y at hy
 cases hb:Nat.ble es.length 12 with
 |true=>rw [hb] at hy; exact ok97tp.2 (es,()) y hy
 |false=>
  rw [hb] at hy
  simp only [cond_false,q97t] at hy
  split at hy
  ·rename_i p l hd
   split at hy
   ·rename_i hl
    cases hy
    obtain ⟨ps,h1,h2⟩:=Option.bind_eq_some_iff.1 hd
    have he:=dAll_ok h1
    have he2:=dWy_ok h2
    have key:=sort_aret (P:=Go.Proofs.Try.prog) swo_turn sortCall_t cmp_t (d:=(p::l).toArray) (by simp) (by simp; omega) none
    have hes:es=(p::l).toArray.toList.map (enR2 Subtype.val):=by
     rw [he,he2,List.map_map]; rfl
    have hlen:(p::l).toArray.size=es.length:=by rw [hes]; simp
    rw [←hes] at key
    refine ⟨by show 1≤1; omega,?_⟩
    have key':=key
    rw [hlen] at key'
    rw [hlen]
    exact key'
   ·cases hy
  ·cases hy
end Go.Am
end
section
namespace Go.Am
open M06 Go.Sort Go.Proofs
namespace Sorto
theorem it0_eq {S R:Type} (b:S→Option (S⊕R)) (s:S):it0 S R b s=iter b s:=rfl
section
variable {α:Type} [Inhabited α]
def encA (tp:α→Pt) (d:Array α):List (List D):=d.toList.map (enR2 tp)
theorem encA_get {tp:α→Pt} {d:Array α} {j:Nat} (h:j<d.size):(encA tp d)[j]?=some (enR2 tp d[j]!):=by
 simp [encA,h]
theorem encA_len (tp:α→Pt) (d:Array α):(encA tp d).length=d.size:=by simp [encA]
theorem swp_size (d:Array α) (i j:Nat):(swp d i j).size=d.size:=by simp [swp]
theorem encA_swp {tp:α→Pt} {d:Array α} {i j:Nat}:encA tp (swp d i j)=((encA tp d).set i (enR2 tp d[j]!)).set j (enR2 tp d[i]!):=by
 simp [encA,swp,List.map_set]
theorem insInner_size (lt:α→α→Bool) (a:Nat):∀ (j:Nat) (d:Array α),(insInner lt a j d).size=d.size
 |0,d=>rfl
 |j+1,d=>by
  simp only [insInner]
  split
  ·rw [insInner_size lt a j,swp_size]
  ·rfl
theorem cells_enR2 (tp:α→Pt) (x:α):cellsOk [CK.int IntKind.i64,CK.int IntKind.i64] (enR2 tp x)=true:=rfl
theorem dI_enR20 (tp:α→Pt) (x:α):dI ((enR2 tp x)[0]?.getD D.nilp)=(tp x).1:=rfl
theorem dI_enR21 (tp:α→Pt) (x:α):dI ((enR2 tp x)[1]?.getD D.nilp)=(tp x).2:=rfl
theorem inso_inner {tp:α→Pt} {cf:α→α→Int} (hcf:∀ x y:α,G87 std ((tp x).1,(tp x).2,(tp y).1,(tp y).2,())=some (cf x y,())) (b i:Int):
  ∀ (j:Nat) (d:Array α),j<d.size→d.size≤1000000→iter (c108o_2 it0 std) (encA tp d,(0:Int),b,i,(j:Int),())=some (encA tp (insInner (ltOf cf) 0 j d),(0:Int),b,i,()):=by
 intro j
 induction j with
 |zero=>
  intro d hj hs
  rw [iter_unfold]
  have:c108o_2 it0 std (encA tp d,(0:Int),b,i,((0:Nat):Int),())=some (.inr (encA tp d,(0:Int),b,i,())):=by
   have hn:¬ ((0:Nat):Int)>0:=by omega
   simp only [c108o_2,stdS,stdL,hn]
  rw [this]; rfl
 |succ j ih=>
  intro d hj hs
  rw [iter_unfold]
  have hx:=encA_get (tp:=tp) hj
  have hy:=encA_get (tp:=tp) (show j<d.size by omega)
  have hl:=encA_len tp d
  have hw:IntKind.i64.wrap (((j+1:Nat):Int) - 1)=(j:Int):=by rw [wrap64]<;>omega
  have hg:((j+1:Nat):Int)>0:=by omega
  have h0:((j+1:Nat):Int)≥0:=by omega
  have h1:((j+1:Nat):Int)<(d.size:Int):=by omega
  have h2:(j:Int)≥0:=by omega
  have h3:(j:Int)<(d.size:Int):=by omega
  have hsj:((encA tp d).set (j+1) (enR2 tp d[j]!))[j]?=some (enR2 tp d[j]!):=by
   rw [List.getElem?_set_ne (by omega),hy]
  have hc:=hcf d[j+1]! d[j]!
  unfold G87 at hc
  have hrow:∀ x:α,[D.int IntKind.i64 (tp x).1,D.int IntKind.i64 (tp x).2]=enR2 tp x:=fun _=>rfl
  simp only [insInner]
  have hgt:(j+1>0):=by omega
  by_cases hlt:cf d[j+1]! d[j]! <0
  ·have hb:c108o_2 it0 std (encA tp d,(0:Int),b,i,((j+1:Nat):Int),())=some (.inl (encA tp (swp d (j+1) j),(0:Int),b,i,(j:Int),())):=by
    simp only [c108o_2,stdS,stdL,cells_enR2,dI_enR20,dI_enR21,std_ar_sub,hg,h0,h1,h2,h3,hw,hx,hy,hl,hc,hlt,hrow,hsj,List.length_set,encA_swp]
   rw [hb]
   have:=ih (swp d (j+1) j) (by rw [swp_size]; omega) (by rw [swp_size]; exact hs)
   simp only [this]
   have:(decide (j+1>0)&&ltOf cf d[j+1]! d[j]!)=true:=by simp [ltOf,hlt]
   rw [if_pos this]
  ·have hb:c108o_2 it0 std (encA tp d,(0:Int),b,i,((j+1:Nat):Int),())=some (.inr (encA tp d,(0:Int),b,i,())):=by
    simp only [c108o_2,stdS,stdL,cells_enR2,dI_enR20,dI_enR21,std_ar_sub,hg,h0,h1,h2,h3,hw,hx,hy,hl,hc,hlt,hrow,hsj,List.length_set]
   rw [hb]
   have:¬ (decide (j+1>0)&&ltOf cf d[j+1]! d[j]!)=true:=by simp [ltOf]; omega
   rw [if_neg this]
theorem inso_outer {tp:α→Pt} {cf:α→α→Int} (hcf:∀ x y:α,G87 std ((tp x).1,(tp x).2,(tp y).1,(tp y).2,())=some (cf x y,())) (n:Nat) (hn:n≤1000000):
  ∀ (k i:Nat) (d:Array α),n - i=k→d.size=n→iter (c108o_1 it0 std) (encA tp d,(0:Int),(n:Int),(i:Int),())=some (encA tp (insOuter (ltOf cf) 0 n i d),()):=by
 intro k
 induction k with
 |zero=>
  intro i d hk hs
  rw [iter_unfold,insOuter,if_neg (by omega)]
  have:c108o_1 it0 std (encA tp d,(0:Int),(n:Int),(i:Int),())=some (.inr (encA tp d,())):=by
   have hnn:¬ (i:Int)<(n:Int):=by omega
   simp only [c108o_1,stdS,stdL,hnn]
  rw [this]
 |succ k ih=>
  intro i d hk hs
  rw [iter_unfold,insOuter,if_pos (by omega)]
  have hin:=inso_inner hcf (n:Int) (i:Int) i d (by omega) (by omega)
  have hw:=wrap_nat (i:=i) (by omega)
  have hlt:(i:Int)<(n:Int):=by omega
  have:c108o_1 it0 std (encA tp d,(0:Int),(n:Int),(i:Int),())=some (.inl (encA tp (insInner (ltOf cf) 0 i d),(0:Int),(n:Int),((i+1:Nat):Int),())):=by
   simp only [c108o_1,it0_eq,stdS,stdL,hlt,hin,std_ar_add,hw]
  rw [this]
  exact ih (i+1) _ (by omega) (by rw [insInner_size]; exact hs)
theorem inso_all {tp:α→Pt} {cf:α→α→Int} (hcf:∀ x y:α,G87 std ((tp x).1,(tp x).2,(tp y).1,(tp y).2,())=some (cf x y,())) (d:Array α) (hn:d.size≤1000000):
  G108o std (encA tp d,(0:Int),(d.size:Int),())=some (encA tp (insertionSort (ltOf cf) d 0 d.size),()):=by
 have h:=inso_outer hcf d.size hn (d.size - 1) 1 d rfl rfl
 have hw:IntKind.i64.wrap ((0:Int)+1)=1:=by decide
 unfold G108o
 simp only [g108o,it0_eq,stdS,stdL,std_ar_add,hw]
 rw [show ((1:Int))=((1:Nat):Int) from rfl,h]
 rfl
theorem pdq_small (lt:α→α→Bool) (d:Array α) (hd:d.size≤12) (l:Nat) (u v:Bool):pdq lt d 0 d.size l u v=insertionSort lt d 0 d.size:=by
 rw [pdq,if_pos (by omega)]
theorem sorto_small {tp:α→Pt} {cf:α→α→Int} (hcf:∀ x y:α,G87 std ((tp x).1,(tp x).2,(tp y).1,(tp y).2,())=some (cf x y,())) (d:Array α) (hd:d.size≤12):
  G97op std (encA tp d,())=some (encA tp (pdq (ltOf cf) d 0 d.size (Lib.bitLen d.size) true true),()):=by
 have h:=inso_all hcf d (by omega)
 unfold G108o at h
 have hl:=encA_len tp d
 have h105:∃ y,G105o std (IntKind.u64.wrap (d.size:Int),())=some y:=by
  have hs:d.size=0∨d.size=1∨d.size=2∨d.size=3∨d.size=4∨d.size=5∨d.size=6∨d.size=7∨d.size=8∨d.size=9∨d.size=10∨d.size=11∨d.size=12:=by omega
  rcases hs with h|h|h|h|h|h|h|h|h|h|h|h|h<;>rw [h]<;>exact ⟨_,rfl⟩
 obtain ⟨y,h105⟩:=h105
 have hw:IntKind.i64.wrap ((d.size:Int) - 0)=(d.size:Int):=by rw [wrap64]<;>omega
 have h12:(d.size:Int)≤12:=by omega
 have hb:∀ q:Int,c104o_1 it0 std (encA tp d,(0:Int),(d.size:Int),q,true,true,())=some (.inr (encA tp (insertionSort (ltOf cf) d 0 d.size),())):=by
  intro q
  simp only [c104o_1,stdS,stdL,std_ar_sub,hw,h12,h]
 unfold G97op
 simp only [g97op,g104o,it0_eq,stdS,stdL,hl,h105]
 rw [iter_unfold,hb,pdq_small _ _ hd]
 rfl
end
end Sorto
end Go.Am
end
section
namespace Go.Am
open M06 Go.Sort Go.Proofs
namespace Sortt
theorem it0_eq {S R:Type} (b:S→Option (S⊕R)) (s:S):it0 S R b s=iter b s:=rfl
section
variable {α:Type} [Inhabited α]
def encA (tp:α→Pt) (d:Array α):List (List D):=d.toList.map (enR2 tp)
theorem encA_get {tp:α→Pt} {d:Array α} {j:Nat} (h:j<d.size):(encA tp d)[j]?=some (enR2 tp d[j]!):=by
 simp [encA,h]
theorem encA_len (tp:α→Pt) (d:Array α):(encA tp d).length=d.size:=by simp [encA]
theorem swp_size (d:Array α) (i j:Nat):(swp d i j).size=d.size:=by simp [swp]
theorem encA_swp {tp:α→Pt} {d:Array α} {i j:Nat}:encA tp (swp d i j)=((encA tp d).set i (enR2 tp d[j]!)).set j (enR2 tp d[i]!):=by
 simp [encA,swp,List.map_set]
theorem insInner_size (lt:α→α→Bool) (a:Nat):∀ (j:Nat) (d:Array α),(insInner lt a j d).size=d.size
 |0,d=>rfl
 |j+1,d=>by
  simp only [insInner]
  split
  ·rw [insInner_size lt a j,swp_size]
  ·rfl
theorem cells_enR2 (tp:α→Pt) (x:α):cellsOk [CK.int IntKind.i64,CK.int IntKind.i64] (enR2 tp x)=true:=rfl
theorem dI_enR20 (tp:α→Pt) (x:α):dI ((enR2 tp x)[0]?.getD D.nilp)=(tp x).1:=rfl
theorem dI_enR21 (tp:α→Pt) (x:α):dI ((enR2 tp x)[1]?.getD D.nilp)=(tp x).2:=rfl
theorem inst_inner {tp:α→Pt} {cf:α→α→Int} (hcf:∀ x y:α,G98 std ((tp x).1,(tp x).2,(tp y).1,(tp y).2,())=some (cf x y,())) (b i:Int):
  ∀ (j:Nat) (d:Array α),j<d.size→d.size≤1000000→iter (b108t_2 std) (encA tp d,(0:Int),b,i,(j:Int),())=some (encA tp (insInner (ltOf cf) 0 j d),(0:Int),b,i,()):=by
 intro j
 induction j with
 |zero=>
  intro d hj hs
  rw [iter_unfold]
  have:b108t_2 std (encA tp d,(0:Int),b,i,((0:Nat):Int),())=some (.inr (encA tp d,(0:Int),b,i,())):=by
   have hn:¬ ((0:Nat):Int)>0:=by omega
   simp only [b108t_2,stdS,stdL,hn]
  rw [this]; rfl
 |succ j ih=>
  intro d hj hs
  rw [iter_unfold]
  have hx:=encA_get (tp:=tp) hj
  have hy:=encA_get (tp:=tp) (show j<d.size by omega)
  have hl:=encA_len tp d
  have hw:IntKind.i64.wrap (((j+1:Nat):Int) - 1)=(j:Int):=by rw [wrap64]<;>omega
  have hg:((j+1:Nat):Int)>0:=by omega
  have h0:((j+1:Nat):Int)≥0:=by omega
  have h1:((j+1:Nat):Int)<(d.size:Int):=by omega
  have h2:(j:Int)≥0:=by omega
  have h3:(j:Int)<(d.size:Int):=by omega
  have hsj:((encA tp d).set (j+1) (enR2 tp d[j]!))[j]?=some (enR2 tp d[j]!):=by
   rw [List.getElem?_set_ne (by omega),hy]
  have hc:=hcf d[j+1]! d[j]!
  have hrow:∀ x:α,[D.int IntKind.i64 (tp x).1,D.int IntKind.i64 (tp x).2]=enR2 tp x:=fun _=>rfl
  simp only [insInner]
  have hgt:(j+1>0):=by omega
  by_cases hlt:cf d[j+1]! d[j]! <0
  ·have hb:b108t_2 std (encA tp d,(0:Int),b,i,((j+1:Nat):Int),())=some (.inl (encA tp (swp d (j+1) j),(0:Int),b,i,(j:Int),())):=by
    simp only [b108t_2,stdS,stdL,cells_enR2,dI_enR20,dI_enR21,std_ar_sub,hg,h0,h1,h2,h3,hw,hx,hy,hl,hc,hlt,hrow,hsj,List.length_set,encA_swp]
   rw [hb]
   have:=ih (swp d (j+1) j) (by rw [swp_size]; omega) (by rw [swp_size]; exact hs)
   simp only [this]
   have:(decide (j+1>0)&&ltOf cf d[j+1]! d[j]!)=true:=by simp [ltOf,hlt]
   rw [if_pos this]
  ·have hb:b108t_2 std (encA tp d,(0:Int),b,i,((j+1:Nat):Int),())=some (.inr (encA tp d,(0:Int),b,i,())):=by
    simp only [b108t_2,stdS,stdL,cells_enR2,dI_enR20,dI_enR21,std_ar_sub,hg,h0,h1,h2,h3,hw,hx,hy,hl,hc,hlt,hrow,hsj,List.length_set]
   rw [hb]
   have:¬ (decide (j+1>0)&&ltOf cf d[j+1]! d[j]!)=true:=by simp [ltOf]; omega
   rw [if_neg this]
theorem inst_outer {tp:α→Pt} {cf:α→α→Int} (hcf:∀ x y:α,G98 std ((tp x).1,(tp x).2,(tp y).1,(tp y).2,())=some (cf x y,())) (n:Nat) (hn:n≤1000000):
  ∀ (k i:Nat) (d:Array α),n - i=k→d.size=n→iter (c108t_1 it0 std) (encA tp d,(0:Int),(n:Int),(i:Int),())=some (encA tp (insOuter (ltOf cf) 0 n i d),()):=by
 intro k
 induction k with
 |zero=>
  intro i d hk hs
  rw [iter_unfold,insOuter,if_neg (by omega)]
  have:c108t_1 it0 std (encA tp d,(0:Int),(n:Int),(i:Int),())=some (.inr (encA tp d,())):=by
   have hnn:¬ (i:Int)<(n:Int):=by omega
   simp only [c108t_1,stdS,stdL,hnn]
  rw [this]
 |succ k ih=>
  intro i d hk hs
  rw [iter_unfold,insOuter,if_pos (by omega)]
  have hin:=inst_inner hcf (n:Int) (i:Int) i d (by omega) (by omega)
  have hw:=wrap_nat (i:=i) (by omega)
  have hlt:(i:Int)<(n:Int):=by omega
  have:c108t_1 it0 std (encA tp d,(0:Int),(n:Int),(i:Int),())=some (.inl (encA tp (insInner (ltOf cf) 0 i d),(0:Int),(n:Int),((i+1:Nat):Int),())):=by
   simp only [c108t_1,it0_eq,stdS,stdL,hlt,hin,std_ar_add,hw]
  rw [this]
  exact ih (i+1) _ (by omega) (by rw [insInner_size]; exact hs)
theorem inst_all {tp:α→Pt} {cf:α→α→Int} (hcf:∀ x y:α,G98 std ((tp x).1,(tp x).2,(tp y).1,(tp y).2,())=some (cf x y,())) (d:Array α) (hn:d.size≤1000000):
  G108t std (encA tp d,(0:Int),(d.size:Int),())=some (encA tp (insertionSort (ltOf cf) d 0 d.size),()):=by
 have h:=inst_outer hcf d.size hn (d.size - 1) 1 d rfl rfl
 have hw:IntKind.i64.wrap ((0:Int)+1)=1:=by decide
 unfold G108t
 simp only [g108t,it0_eq,stdS,stdL,std_ar_add,hw]
 rw [show ((1:Int))=((1:Nat):Int) from rfl,h]
 rfl
theorem pdq_small (lt:α→α→Bool) (d:Array α) (hd:d.size≤12) (l:Nat) (u v:Bool):pdq lt d 0 d.size l u v=insertionSort lt d 0 d.size:=by
 rw [pdq,if_pos (by omega)]
theorem sortt_small {tp:α→Pt} {cf:α→α→Int} (hcf:∀ x y:α,G98 std ((tp x).1,(tp x).2,(tp y).1,(tp y).2,())=some (cf x y,())) (d:Array α) (hd:d.size≤12):
  G97tp std (encA tp d,())=some (encA tp (pdq (ltOf cf) d 0 d.size (Lib.bitLen d.size) true true),()):=by
 have h:=inst_all hcf d (by omega)
 unfold G108t at h
 have hl:=encA_len tp d
 have h105:∃ y,G105t std (IntKind.u64.wrap (d.size:Int),())=some y:=by
  have hs:d.size=0∨d.size=1∨d.size=2∨d.size=3∨d.size=4∨d.size=5∨d.size=6∨d.size=7∨d.size=8∨d.size=9∨d.size=10∨d.size=11∨d.size=12:=by omega
  rcases hs with h|h|h|h|h|h|h|h|h|h|h|h|h<;>rw [h]<;>exact ⟨_,rfl⟩
 obtain ⟨y,h105⟩:=h105
 have hw:IntKind.i64.wrap ((d.size:Int) - 0)=(d.size:Int):=by rw [wrap64]<;>omega
 have h12:(d.size:Int)≤12:=by omega
 have hb:∀ q:Int,c104t_1 it0 std (encA tp d,(0:Int),(d.size:Int),q,true,true,())=some (.inr (encA tp (insertionSort (ltOf cf) d 0 d.size),())):=by
  intro q
  simp only [c104t_1,stdS,stdL,std_ar_sub,hw,h12,h]
 unfold G97tp
 simp only [g97tp,g104t,it0_eq,stdS,stdL,hl,h105]
 rw [iter_unfold,hb,pdq_small _ _ hd]
 rfl
end
end Sortt
end Go.Am
end
section
namespace Go.Am
open M06 Go.Sort Go.Proofs
theorem permIn_all {α:Type} [Inhabited α] {d d':Array α} (h:PermIn 0 d.size d d'):d'.toList.Perm d.toList:=by
 have:=h.2.2
 have e1:d'.extract 0 d.size=d':=by rw [←h.1]; simp
 have e2:d.extract 0 d.size=d:=by simp
 rw [e1,e2] at this; exact this
theorem sortedIn_all {α:Type} [Inhabited α] {lt:α→α→Bool} {d d':Array α} (hs:d'.size=d.size) (h:SortedIn lt 0 d.size d'):d'.toList.Pairwise (fun a b=>lt b a=false):=by
 rw [List.pairwise_iff_getElem]
 intro i j hi hj hij
 have hi':i<d'.size:=by simpa using hi
 have hj':j<d'.size:=by simpa using hj
 have:=h i j (Nat.zero_le _) hij (by omega)
 rw [getElem!_pos d' i hi',getElem!_pos d' j hj'] at this
 simpa using this
theorem sort_o (l:List Pt) (hl:l.length≤12):∃ l',G97o std (encP l,())=some (encP l',())∧l'.Perm l∧l'.Pairwise (fun a b=>¬ Lt b a):=by
 have h:=Sorto.sorto_small (tp:=id) (cf:=ordC) (fun x y=>G87_ok x y) l.toArray (by simpa using hl)
 have hp:=pdq_sorts (ltOf ordC) swo_ord l.toArray 0 l.toArray.size (Lib.bitLen l.toArray.size) true true (Nat.zero_le _) (Nat.le_refl _) (Or.inl rfl)
 generalize hd:pdq (ltOf ordC) l.toArray 0 l.toArray.size (Lib.bitLen l.toArray.size) true true=d' at h hp
 refine ⟨d'.toList,?_,permIn_all hp.1,?_⟩
 ·have hb:Nat.ble (encP l).length 12=true:=by simp [encP]; exact hl
  show (bif Nat.ble (encP l).length 12 then _ else _)=_
  rw [hb]
  exact h
 ·refine (sortedIn_all hp.1.1 hp.2).imp fun hab hlt=>?_
  rw [ordC_lt.2 hlt] at hab; cases hab
theorem dWy_some:∀ {l:List Pt},(∀ w∈l,Small w∧w≠(0,0))→∃ t,dWy l=some t∧t.map Subtype.val=l
 |[],_=>⟨[],rfl,rfl⟩
 |p::l,h=>by
  obtain ⟨t,h1,h2⟩:=dWy_some (l:=l) (fun w hw=>h w (List.mem_cons_of_mem _ hw))
  refine ⟨⟨p,h p (by simp)⟩::t,?_,by simp [h2]⟩
  simp only [dWy,h1,dif_pos (h p (List.mem_cons_self ..))]
theorem dAll_some:∀ (l:List Pt),dAll (encP l)=some l
 |[]=>rfl
 |p::l=>by
  show (match dPt (eP p),dAll (encP l) with|some q,some t=>some (q::t)|_,_=>none)=_
  rw [dAll_some l]
  rfl
theorem sort_t (l:List Pt) (hw:∀ w∈l,Small w∧w≠(0,0)) (hl:l.length≤1000000):∃ l',G97t std (encP l,())=some (encP l',())∧l'.Perm l∧l'.Pairwise (fun a b=>¬ turnC b a<0):=by
 obtain ⟨t,h1,h2⟩:=dWy_some hw
 have htl:t.length=l.length:=by rw [←h2]; simp
 have hp:=pdq_sorts (ltOf (fun x y:Wy=>turnC x.1 y.1)) swo_turn t.toArray 0 t.toArray.size (Lib.bitLen t.toArray.size) true true (Nat.zero_le _) (Nat.le_refl _) (Or.inl rfl)
 have henc:encP l=Sortt.encA Subtype.val t.toArray:=by
  rw [←h2]
  simp only [encP,Sortt.encA,List.map_map]
  rfl
 generalize hd:pdq (ltOf (fun x y:Wy=>turnC x.1 y.1)) t.toArray 0 t.toArray.size (Lib.bitLen t.toArray.size) true true=d' at hp
 have hfin:(d'.toList.map Subtype.val).Perm l∧(d'.toList.map Subtype.val).Pairwise (fun a b=>¬ turnC b a<0):=by
  refine ⟨?_,?_⟩
  ·have:=(permIn_all hp.1).map Subtype.val
   rw [←h2]; simpa using this
  ·rw [List.pairwise_map]
   refine (sortedIn_all hp.1.1 hp.2).imp fun hab hlt=>?_
   rw [ltOf_iff (cf:=fun x y:Wy=>turnC x.1 y.1).2 hlt] at hab; cases hab
 refine ⟨d'.toList.map Subtype.val,?_,hfin.1,hfin.2⟩
 have hres:encP (d'.toList.map Subtype.val)=d'.toList.map (enR2 Subtype.val):=by
  simp only [encP,List.map_map]; rfl
 show (bif Nat.ble (encP l).length 12 then g97tp it0 std (encP l,()) else q97t (encP l,()))=_
 by_cases h12:l.length≤12
 ·have hb:Nat.ble (encP l).length 12=true:=by simp [encP]; exact h12
  rw [hb]
  have h:=Sortt.sortt_small (tp:=Subtype.val) (cf:=fun x y:Wy=>turnC x.1 y.1) (fun x y=>G98_ok x.2.1 y.2.1) t.toArray (by simp; omega)
  rw [hd, ←henc] at h
  rw [hres]
  exact h
 ·have hb:Nat.ble (encP l).length 12=false:=by
   have:¬ (encP l).length≤12:=by simpa [encP] using h12
   cases hq:Nat.ble (encP l).length 12 with
   |false=>rfl
   |true=>exact absurd (Nat.le_of_ble_eq_true hq) this
  rw [hb]
  simp only [cond_false,q97t,dAll_some,Option.bind_some,h1]
  match t,h1,htl,hd with
  |[],_,htl,_=>simp at htl; omega
  |p::t,_,htl,hd=>
   simp only
   rw [if_pos (by simp at htl; omega),hd,hres]
end Go.Am
end
section
namespace Go.Am
open M06
def greatG (l:List Pt) (hs:List (List Pt)):Prop:=20<l.length∨8<hs.length∨∃ h∈hs,20<h.length
instance (l:List Pt) (hs:List (List Pt)):Decidable (greatG l hs):=by unfold greatG; infer_instance
theorem lgetD {α:Type} {l:List α} {i:Nat} {m d:α} (h:l[i]?=some m):l.getD i d=m:=by simp [List.getD_eq_getElem?_getD,h]
theorem all_getD {α:Type} {l:List α} {d:α} {P:α→Prop} (h:∀ i,i<l.length→P (l.getD i d)):∀ p∈l,P p:=fun p hp=>by
 obtain ⟨i,hi'⟩:=List.getElem?_of_mem hp
 have:=h i (List.getElem?_eq_some_iff.1 hi').1
 rwa [lgetD hi'] at this
theorem getD_mem {α:Type} {l:List α} {i:Nat} (d:α) (h:i<l.length):l.getD i d∈l:=by
 obtain ⟨m,hm⟩:=get_some h
 rw [lgetD hm]; exact List.mem_of_getElem? hm
theorem G14_ok (l:List Pt) (hs:List (List Pt)):G14 std (encP l,encH hs,())=some (decide (greatG l hs),()):=by
 unfold G14
 have h0:(if (l.length:Int)>20 then some (encP l,encH hs,true,()) else some (encP l,encH hs,decide ((hs.length:Int)>8),()))=some (encP l,encH hs,decide (20<l.length∨8<hs.length),()):=by
  by_cases h1:20<l.length
  ·have:(l.length:Int)>20:=by omega
   simp [this,h1]
  ·have:¬ (l.length:Int)>20:=by omega
   simp only [this,h1,if_false,false_or]
   congr 4
   rw [decide_eq_decide]; omega
 have e1:std.ofNat (std.len (encP l))=(l.length:Int):=by simp [std_ofNat,std_len,encP]
 have e2:std.ofNat (std.len (encH hs))=(hs.length:Int):=by simp [std_ofNat,std_len,encH]
 simp only [g14,it0,need_eq,ask_eq,ret_eq,bnd_eq,run_eq,alt_eq,e1,e2,std_gtr,decide_eq_true_eq,h0,Option.bind_some]
 by_cases hg:20<l.length∨8<hs.length
 ·have:greatG l hs:=hg.elim .inl fun h=> .inr (.inl h)
  simp only [hg,if_true,decide_eq_true this]
 ·have hl8:hs.length≤8:=by omega
  have key:=iter_find (b:=b14_1 std) hs.length (fun i=>(encP l,encH hs,(i:Int),())) (fun i=>decide (20<(hs.getD i []).length)) (fun i=> .inl (true,())) (.inr ()) (fun i hi'=>by
   obtain ⟨m,hm⟩:=get_some hi'
   have hw:=wrap_nat (i:=i) (by omega)
   have hlt:(i:Int)<hs.length:=by omega
   have h0:(0:Int)≤i:=by omega
   simp only [lgetD hm,b14_1,stdS,stdL,encH,cells_eH,dL_eH,hm,hlt,h0,ge_iff_le,std_ar_add,hw,encP]
   by_cases k:20<m.length
   ·have:(m.length:Int)>20:=by omega
    simp [k,this]
   ·have:¬ (m.length:Int)>20:=by omega
    simp [k,this]) (by
   have hn:¬ (hs.length:Int)<hs.length:=by omega
   simp only [b14_1,stdS,stdL,encH,hn])
  have e0:(encP l,encH hs,(0:Int),())=(encP l,encH hs,((0:Nat):Int),()):=rfl
  simp only [hg,if_false]
  rw [e0]
  rcases key with ⟨i,h1,h2,_,h4⟩|⟨h1,h2⟩
  ·have:greatG l hs:= .inr (.inr ⟨_,getD_mem [] h1,by simpa using h2⟩)
   rw [h4]
   simp only [stdS,stdL,decide_eq_true this]
  ·have:¬ greatG l hs:=by
    rintro (h|h|⟨h,hm,hh⟩)
    ·exact hg (.inl h)
    ·exact hg (.inr h)
    ·have:=all_getD (P:=fun h=>¬ 20<h.length) (fun i hi=>by simpa using h1 i hi) h hm
     exact this hh
   rw [h2]
   simp only [stdS,stdL,decide_eq_false this]
def chkG (l:List Pt) (hs:List (List Pt)):Int:=
 if ¬ manyP l∨4<hs.length∨∃ h∈hs,¬ manyP h then 6 else if (¬ ∀ p∈l,inBox 0 1000 p)∨∃ h∈hs,¬ ∀ p∈h,inBox (-1000) 1000 p then 3 else 0
theorem G18_ok (l:List Pt) (hs:List (List Pt)):G18 std (encP l,encH hs,())=some (chkG l hs,()):=by
 unfold G18 chkG
 have e2:std.ofNat (std.len (encH hs))=(hs.length:Int):=by simp [std_ofNat,std_len,encH]
 by_cases h1:manyP l
 case neg=>simp only [g18,it0,stdS,stdL,G50_ok,h1,not_false_eq_true,true_or]
 by_cases h2:4<hs.length
 case pos=>
  have:(hs.length:Int)>4:=by omega
  simp only [g18,it0,need_eq,ask_eq,ret_eq,bnd_eq,run_eq,alt_eq,bif_eq,e2,std_gtr,G50_ok,h1,h2,this,not_true,false_or,true_or,or_true,decide_true,if_true,if_false,Option.bind_some,Bool.false_eq_true]
 have h2':¬ (hs.length:Int)>4:=by omega
 have key:=iter_find (b:=b18_1 std) hs.length (fun i=>(encP l,encH hs,encH hs,(hs.length:Int),(i:Int),())) (fun i=>!decide (manyP (hs.getD i []))) (fun i=> .inl (encP l,encH hs,(i:Int),())) (.inr (encP l,encH hs,())) (fun i hi'=>by
  obtain ⟨m,hm⟩:=get_some hi'
  have hw:=wrap_nat (i:=i) (by omega)
  have hlt:(i:Int)<hs.length:=by omega
  have h0:(0:Int)≤i:=by omega
  simp only [lgetD hm,b18_1,stdS,stdL,encH,cells_eH,dL_eH,G50_ok,hm,hlt,h0,ge_iff_le,std_ar_add,hw]
  by_cases k:manyP m
  ·simp [k]
  ·simp [k]) (by
  have hn:¬ (hs.length:Int)<hs.length:=by omega
  simp only [b18_1,stdS,stdL,hn])
 have e0:(encP l,encH hs,encH hs,(hs.length:Int),(0:Int),())=(encP l,encH hs,encH hs,(hs.length:Int),((0:Nat):Int),()):=rfl
 simp only [g18,it0,need_eq,ask_eq,ret_eq,bnd_eq,run_eq,alt_eq,bif_eq,e2,std_gtr,G50_ok,h1,h2',h2,not_true,false_or,decide_true,if_true,if_false,Option.bind_some,Bool.false_eq_true,decide_false]
 rw [e0]
 rcases key with ⟨i,i1,i2,_,i4⟩|⟨i1,i2⟩
 ·have:∃ h∈hs,¬ manyP h:=⟨_,getD_mem [] i1,by simpa using i2⟩
  have h0:(0:Int)≤i:=by omega
  simp only [i4,Option.bind_some,Sum.elim_inl,std_geq,ge_iff_le,h0,decide_true,if_true,this]
 ·have hall:=all_getD (P:=fun h=>manyP h) (fun i hi=>by simpa using i1 i hi)
  have hno:¬ ∃ h∈hs,¬ manyP h:=fun ⟨h,hm,hn⟩=>hn (hall h hm)
  simp only [i2,Option.bind_some,Sum.elim_inr,std_geq,show ¬ (-1:Int)≥0 by decide,decide_false,Bool.false_eq_true,if_false,hno]
  have g0:g53 it0 std (0,1000,encP l,())=some (decide (∀ p∈l,inBox 0 1000 p),()):=G53_ok 0 1000 l (by have:=h1.2; omega)
  rw [g0]
  by_cases h3:∀ p∈l,inBox 0 1000 p
  case neg=>simp only [Option.bind_some,decide_eq_false h3,decide_false,Bool.false_eq_true,if_false,if_true,h3,not_false_eq_true,true_or]
  have key2:=iter_find (b:=c18_2 it0 std) hs.length (fun i=>(encP l,encH hs,encH hs,(hs.length:Int),(i:Int),())) (fun i=>!decide (∀ p∈hs.getD i [],inBox (-1000) 1000 p)) (fun i=> .inl (encP l,encH hs,(i:Int),())) (.inr (encP l,encH hs,())) (fun i hi'=>by
   obtain ⟨m,hm⟩:=get_some hi'
   have hw:=wrap_nat (i:=i) (by omega)
   have hlt:(i:Int)<hs.length:=by omega
   have h0:(0:Int)≤i:=by omega
   have g1:g53 it0 std (-1000,1000,encP m,())=some (decide (∀ p∈m,inBox (-1000) 1000 p),()):=G53_ok (-1000) 1000 m (by have:=(hall m (List.mem_of_getElem? hm)).2; omega)
   simp only [lgetD hm,c18_2,stdS,stdL,encH,cells_eH,dL_eH,g1,hm,hlt,h0,ge_iff_le,std_ar_add,hw]
   by_cases k:∀ p∈m,inBox (-1000) 1000 p
   ·rw [if_pos k,if_neg (by simp),if_neg (fun h=>h k)]
   ·rw [if_neg k,if_pos rfl,if_pos k]) (by
   have hn:¬ (hs.length:Int)<hs.length:=by omega
   simp only [c18_2,stdS,stdL,hn])
  simp only [Option.bind_some,decide_eq_true h3,if_true,Bool.false_eq_true,if_false,e2]
  rw [e0]
  rcases key2 with ⟨i,j1,j2,_,j4⟩|⟨j1,j2⟩
  ·have:∃ h∈hs,¬ ∀ p∈h,inBox (-1000) 1000 p:=⟨_,getD_mem [] j1,by simpa only [Bool.not_eq_true',decide_eq_false_iff_not] using j2⟩
   have h0:(0:Int)≤i:=by omega
   simp only [j4,Option.bind_some,Sum.elim_inl,ge_iff_le,h0,decide_true,if_true,this,or_true]
  ·have hall2:=all_getD (P:=fun h=>∀ p∈h,inBox (-1000) 1000 p) (fun i hi=>by have:=j1 i hi; simpa only [Bool.not_eq_false',decide_eq_true_eq] using this)
   have hno2:¬ ∃ h∈hs,¬ ∀ p∈h,inBox (-1000) 1000 p:=fun ⟨h,hm,hn⟩=>hn (hall2 h hm)
   have h3':¬ ¬ ∀ p∈l,inBox 0 1000 p:=fun h=>h h3
   simp only [j2,Option.bind_some,Sum.elim_inr,if_false,decide_false,Bool.false_eq_true,hno2,h3',or_false]
theorem G19_ok (l:List Pt) (hs:List (List Pt)):G19 std (encP l,encH hs,())=some (chkG l hs,()):=by
 unfold G19 chkG
 have e2:std.ofNat (std.len (encH hs))=(hs.length:Int):=by simp [std_ofNat,std_len,encH]
 by_cases h1:manyP l
 case neg=>simp only [g19,it0,stdS,stdL,G55_ok,h1,not_false_eq_true,true_or]
 by_cases h2:4<hs.length
 case pos=>
  have:(hs.length:Int)>4:=by omega
  simp only [g19,it0,need_eq,ask_eq,ret_eq,bnd_eq,run_eq,alt_eq,bif_eq,e2,std_gtr,G55_ok,h1,h2,this,not_true,false_or,true_or,or_true,decide_true,if_true,if_false,Option.bind_some,Bool.false_eq_true]
 have h2':¬ (hs.length:Int)>4:=by omega
 have key:=iter_find (b:=b19_1 std) hs.length (fun i=>(encP l,encH hs,(i:Int),())) (fun i=>!decide (manyP (hs.getD i []))) (fun i=> .inl (6,())) (.inr (encP l,encH hs,())) (fun i hi'=>by
  obtain ⟨m,hm⟩:=get_some hi'
  have hw:=wrap_nat (i:=i) (by omega)
  have hlt:(i:Int)<hs.length:=by omega
  have h0:(0:Int)≤i:=by omega
  simp only [lgetD hm,b19_1,stdS,stdL,encH,cells_eH,dL_eH,G55_ok,hm,hlt,h0,ge_iff_le,std_ar_add,hw]
  by_cases k:manyP m
  ·simp [k]
  ·simp [k]) (by
  have hn:¬ (hs.length:Int)<hs.length:=by omega
  simp only [b19_1,stdS,stdL,encH,hn])
 have e0:(encP l,encH hs,(0:Int),())=(encP l,encH hs,((0:Nat):Int),()):=rfl
 simp only [g19,it0,need_eq,ask_eq,ret_eq,bnd_eq,run_eq,alt_eq,bif_eq,e2,std_gtr,G55_ok,h1,h2',h2,not_true,false_or,decide_true,if_true,if_false,Option.bind_some,Bool.false_eq_true,decide_false]
 rw [e0]
 rcases key with ⟨i,i1,i2,_,i4⟩|⟨i1,i2⟩
 ·have:∃ h∈hs,¬ manyP h:=⟨_,getD_mem [] i1,by simpa using i2⟩
  simp only [i4,Option.bind_some,Sum.elim_inl,if_true,this]
 ·have hall:=all_getD (P:=fun h=>manyP h) (fun i hi=>by simpa using i1 i hi)
  have hno:¬ ∃ h∈hs,¬ manyP h:=fun ⟨h,hm,hn⟩=>hn (hall h hm)
  simp only [i2,Option.bind_some,Sum.elim_inr,Bool.false_eq_true,if_false,hno]
  have g0:g56 it0 std (encP l,0,1000,())=some (decide (∀ p∈l,inBox 0 1000 p),()):=G56_ok 0 1000 l (by have:=h1.2; omega)
  rw [g0]
  by_cases h3:∀ p∈l,inBox 0 1000 p
  case neg=>simp only [Option.bind_some,decide_eq_false h3,decide_false,Bool.false_eq_true,if_false,if_true,h3,not_false_eq_true,true_or]
  have key2:=iter_find (b:=c19_2 it0 std) hs.length (fun i=>(encP l,encH hs,(i:Int),())) (fun i=>!decide (∀ p∈hs.getD i [],inBox (-1000) 1000 p)) (fun i=> .inl (3,())) (.inr ()) (fun i hi'=>by
   obtain ⟨m,hm⟩:=get_some hi'
   have hw:=wrap_nat (i:=i) (by omega)
   have hlt:(i:Int)<hs.length:=by omega
   have h0:(0:Int)≤i:=by omega
   have g1:g56 it0 std (encP m, -1000,1000,())=some (decide (∀ p∈m,inBox (-1000) 1000 p),()):=G56_ok (-1000) 1000 m (by have:=(hall m (List.mem_of_getElem? hm)).2; omega)
   simp only [lgetD hm,c19_2,stdS,stdL,encH,cells_eH,dL_eH,g1,hm,hlt,h0,ge_iff_le,std_ar_add,hw]
   by_cases k:∀ p∈m,inBox (-1000) 1000 p
   ·rw [if_pos k,if_neg (by simp),if_neg (fun h=>h k)]
   ·rw [if_neg k,if_pos rfl,if_pos k]) (by
   have hn:¬ (hs.length:Int)<hs.length:=by omega
   simp only [c19_2,stdS,stdL,encH,hn])
  simp only [Option.bind_some,decide_eq_true h3,if_true,Bool.false_eq_true,if_false]
  rw [e0]
  rcases key2 with ⟨i,j1,j2,_,j4⟩|⟨j1,j2⟩
  ·have:∃ h∈hs,¬ ∀ p∈h,inBox (-1000) 1000 p:=⟨_,getD_mem [] j1,by simpa only [Bool.not_eq_true',decide_eq_false_iff_not] using j2⟩
   simp only [j4,Option.bind_some,Sum.elim_inl,if_true,this,or_true]
  ·have hall2:=all_getD (P:=fun h=>∀ p∈h,inBox (-1000) 1000 p) (fun i hi=>by have:=j1 i hi; simpa only [Bool.not_eq_false',decide_eq_true_eq] using this)
   have hno2:¬ ∃ h∈hs,¬ ∀ p∈h,inBox (-1000) 1000 p:=fun ⟨h,hm,hn⟩=>hn (hall2 h hm)
   have h3':¬ ¬ ∀ p∈l,inBox 0 1000 p:=fun h=>h h3
   simp only [j2,Option.bind_some,Sum.elim_inr,if_false,Bool.false_eq_true,hno2,h3',or_false]
end Go.Am
end
noncomputable section
namespace Go.Am
def ctr88:Ctr:=
 ⟨88,[.list 2],[],[(.ret,⟨[(0, .slc 0 2)],[.row [ci,ci]],1⟩)]⟩
def la88:List LA:=
 [⟨88,[false,true,false,true,true],0,⟨⟨[(3, .vec 0 2),(6, .list 2),(7, .int .i64),(8, .int .i64)],[.row [ci,ci]],61⟩,[((AX.exit 0),⟨[(3, .vec 0 2)],[.row [ci,ci]],61⟩)]⟩⟩,
 ⟨88,[false,false,true,false,false,true,true,false,false,true,false,true,true],0,⟨⟨[(3, .sl 0 2),(5, .bptr 1 0),(6, .list 2),(7, .int .i64),(8, .int .i64)],[.row [ci,ci], .box [.int .i64, .int .i64]],61⟩,[((AX.exit 2),⟨[(3, .sl 0 2),(5, .bptr 1 0),(6, .list 2),(7, .int .i64),(8, .int .i64)],[.row [ci,ci], .box [.int .i64, .int .i64]],61⟩)]⟩⟩]
def ja88:List JA:=
 []
def gam88:List CF:=
 []
def an88:Anns:=
 ⟨gam88,ja88,[]⟩
def b88_2 (p:Prim):(LD×T29)→Option ((LD×T29)⊕(LD×T29)):=
 fun a=>opt.run _ (
 opt.ask _ (p.cmp .gtr (p.ofNat a.2.2.2.2.1) (1:Int)) (
 opt.need _ (bif (p.cmp .geq (p.ar .sub .i64 (p.ofNat a.2.2.2.2.1) (1:Int)) (0:Int)) then (p.cmp .lss (p.ar .sub .i64 (p.ofNat a.2.2.2.2.1) (1:Int)) (p.ofNat a.2.2.2.2.1)) else Bool.false)<|
 opt.need _ (p.rowOk a.1 (p.add a.2.2.2.1 (p.nat (p.ar .sub .i64 (p.ofNat a.2.2.2.2.1) (1:Int)))) [ci,ci])<|
 opt.need _ (bif (p.cmp .geq (p.ar .sub .i64 (p.ofNat a.2.2.2.2.1) (2:Int)) (0:Int)) then (p.cmp .lss (p.ar .sub .i64 (p.ofNat a.2.2.2.2.1) (2:Int)) (p.ofNat a.2.2.2.2.1)) else Bool.false)<|
 opt.need _ (p.rowOk a.1 (p.add a.2.2.2.1 (p.nat (p.ar .sub .i64 (p.ofNat a.2.2.2.2.1) (2:Int)))) [ci,ci])<|
 opt.need _ (bif (p.cmp .geq (p.ar .sub .i64 (p.ofNat a.2.2.2.2.1) (2:Int)) (0:Int)) then (p.cmp .lss (p.ar .sub .i64 (p.ofNat a.2.2.2.2.1) (2:Int)) (p.ofNat a.2.2.2.2.1)) else Bool.false)<|
 opt.need _ (p.rowOk a.1 (p.add a.2.2.2.1 (p.nat (p.ar .sub .i64 (p.ofNat a.2.2.2.2.1) (2:Int)))) [ci,ci])<|
 opt.ask _ (p.cmp .leq (p.ar .sub .i64 (p.ar .mul .i64 (p.ar .sub .i64 (p.rdI a.1 (p.add a.2.2.2.1 (p.nat (p.ar .sub .i64 (p.ofNat a.2.2.2.2.1) (1:Int)))) 0) (p.rdI a.1 (p.add a.2.2.2.1 (p.nat (p.ar .sub .i64 (p.ofNat a.2.2.2.2.1) (2:Int)))) 0)) (p.ar .sub .i64 a.2.2.1 (p.rdI a.1 (p.add a.2.2.2.1 (p.nat (p.ar .sub .i64 (p.ofNat a.2.2.2.2.1) (2:Int)))) 1))) (p.ar .mul .i64 (p.ar .sub .i64 (p.rdI a.1 (p.add a.2.2.2.1 (p.nat (p.ar .sub .i64 (p.ofNat a.2.2.2.2.1) (1:Int)))) 1) (p.rdI a.1 (p.add a.2.2.2.1 (p.nat (p.ar .sub .i64 (p.ofNat a.2.2.2.2.1) (2:Int)))) 1)) (p.ar .sub .i64 a.2.1 (p.rdI a.1 (p.add a.2.2.2.1 (p.nat (p.ar .sub .i64 (p.ofNat a.2.2.2.2.1) (2:Int)))) 0)))) (0:Int)) (
 opt.need _ (p.and (p.cmp .geq (0:Int) (0:Int)) (p.and (p.cmp .leq (0:Int) (p.ar .sub .i64 (p.ofNat a.2.2.2.2.1) (1:Int))) (p.and (p.cmp .leq (p.ar .sub .i64 (p.ofNat a.2.2.2.2.1) (1:Int)) (p.ar .sub .i64 (p.ofNat a.2.2.2.2.1) (1:Int))) (p.cmp .leq (p.ar .sub .i64 (p.ofNat a.2.2.2.2.1) (1:Int)) (p.ofNat a.2.2.2.2.1)))))<|
 opt.need _ (p.leN (p.add (p.add a.2.2.2.1 (p.nat (0:Int))) (p.sub (p.nat (p.ar .sub .i64 (p.ofNat a.2.2.2.2.1) (1:Int))) (p.nat (0:Int)))) (p.len a.1))<|
 opt.ret _ (Sum.inl (a.1,(a.2.1,(a.2.2.1,((p.add a.2.2.2.1 (p.nat (0:Int))),((p.sub (p.nat (p.ar .sub .i64 (p.ofNat a.2.2.2.2.1) (1:Int))) (p.nat (0:Int))),(a.2.2.2.2.2.1,(a.2.2.2.2.2.2.1,(a.2.2.2.2.2.2.2.1,())))))))))) (
 opt.ret _ (Sum.inr (a.1,(a.2.1,(a.2.2.1,(a.2.2.2.1,(a.2.2.2.2.1,(a.2.2.2.2.2.1,(a.2.2.2.2.2.2.1,(a.2.2.2.2.2.2.2.1,()))))))))))) (
 opt.ret _ (Sum.inr (a.1,(a.2.1,(a.2.2.1,(a.2.2.2.1,(a.2.2.2.2.1,(a.2.2.2.2.2.1,(a.2.2.2.2.2.2.1,(a.2.2.2.2.2.2.2.1,())))))))))))
def c88_1 (it:It) (p:Prim):(LD×(LD×T4))→Option ((LD×(LD×T4))⊕(LD×Unit)):=
 fun a=>opt.run _ (
 opt.ask _ (p.cmp .lss a.2.2.2.1 a.2.2.1) (
 opt.need _ (p.rowOk a.2.1 (p.nat a.2.2.2.1) [ci,ci])<|
 opt.need _ (p.cmp .geq a.2.2.2.1 (0:Int))<|
 opt.bnd ((LD×T29)) _ (
 it _ _ (b88_2 p) (a.1,((p.rdI a.2.1 (p.nat a.2.2.2.1) 0),((p.rdI a.2.1 (p.nat a.2.2.2.1) 1),(0,((p.len a.1),(a.2.1,(a.2.2.1,(a.2.2.2.1,()))))))))) fun b=>
 opt.need _ (p.and (p.leN (p.add 0 1) (p.len [[(D.int .i64 b.2.1),(D.int .i64 b.2.2.1)]])) (p.and (p.leN (p.add b.2.2.2.1 b.2.2.2.2.1) (p.len b.1)) (p.and (p.leN 1 1) (p.leN (p.add b.2.2.2.2.1 1) 1000000))))<|
 opt.need _ (p.eqN 0 0)<|
 opt.need _ (p.eqN (p.add b.2.2.2.2.1 1) (p.len (p.app (p.cut b.1 b.2.2.2.1 b.2.2.2.2.1) (p.cut [[(D.int .i64 b.2.1),(D.int .i64 b.2.2.1)]] 0 1))))<|
 opt.ret _ (Sum.inl ((p.app (p.cut b.1 b.2.2.2.1 b.2.2.2.2.1) (p.cut [[(D.int .i64 b.2.1),(D.int .i64 b.2.2.1)]] 0 1)),(b.2.2.2.2.2.1,(b.2.2.2.2.2.2.1,((p.ar .add .i64 b.2.2.2.2.2.2.2.1 (1:Int)),())))))) (
 opt.need _ (p.eqN 0 0)<|
 opt.need _ (p.eqN (p.len a.1) (p.len a.1))<|
 opt.ret _ (Sum.inr (a.1,()))))
def g88 (it:It):(p:Prim)→(LD×Unit)→Option ((LD×T9)):=
 fun p x=>
 opt.bnd ((LD×Unit)) _ (
 it _ _ (c88_1 it p) ([],(x.1,((p.ofNat (p.len x.1)),((0:Int),()))))) fun a=>
 opt.need _ (p.and (p.cmp .geq (0:Int) (0:Int)) (p.and (p.cmp .leq (0:Int) (p.ar .sub .i64 (p.ofNat (p.len a.1)) (1:Int))) (p.and (p.cmp .leq (p.ar .sub .i64 (p.ofNat (p.len a.1)) (1:Int)) (p.ar .sub .i64 (p.ofNat (p.len a.1)) (1:Int))) (p.cmp .leq (p.ar .sub .i64 (p.ofNat (p.len a.1)) (1:Int)) (p.ofNat (p.len a.1))))))<|
 opt.ret _ (a.1,((p.add 0 (p.nat (0:Int))),((p.sub (p.nat (p.ar .sub .i64 (p.ofNat (p.len a.1)) (1:Int))) (p.nat (0:Int))),((p.sub (p.nat (p.ar .sub .i64 (p.ofNat (p.len a.1)) (1:Int))) (p.nat (0:Int))),()))))
def G88:=g88 it0
theorem ok88:CtrOk PG ctr88 (G88 std):=okF (a:=an88) (l:=la88) (gN) (by kernel_rfl) fun _ _=>by kernel_rfl
def ctr101:Ctr:=
 ⟨101,[.slc 0 2],[.row [ci,ci]],[(.ret,⟨[(0, .slc 0 2)],[.row [ci,ci]],1⟩)]⟩
def la101:List LA:=
 [⟨101,[false,true,false,true,true],1,⟨⟨[(0, .slc 0 2),(3, .int .i64)],[.row [ci,ci]],61⟩,[(AX.ret,⟨[(2, .slc 0 2)],[.row [ci,ci]],61⟩),((AX.exit 0),⟨[(0, .slc 0 2)],[.row [ci,ci]],61⟩)]⟩⟩,
 ⟨101,[false,true,false,true,false,true,false,false,true,false,false,true,false,true,true],1,⟨⟨[(0, .slc 0 2),(3, .int .i64),(4, .slc 0 2),(5, .int .i64)],[.row [ci,ci]],61⟩,[((AX.exit 2),⟨[(0, .slc 0 2),(3, .int .i64)],[.row [ci,ci]],61⟩)]⟩⟩]
def ja101:List JA:=
 [⟨101,[true,false,false,true,false,false,true,false,true,false,true,false,false,true,false,false,true,false,true,true],1,[(AX.normal,⟨[(0, .slc 0 2),(3, .int .i64),(4, .slc 0 2),(5, .int .i64)],[.row [ci,ci]],61⟩)]⟩]
def gam101:List CF:=
 []
def an101:Anns:=
 ⟨gam101,ja101,[]⟩
def b101_2 (p:Prim):(LD×T30)→Option ((LD×T30)⊕(LD×T31)):=
 fun a=>opt.run _ (
 opt.ask _ (p.cmp .lss a.2.2.2.2.2.2.2.2.1 (p.ofNat a.2.2.2.2.2.2.1)) (
 opt.need _ (bif (p.cmp .geq a.2.2.2.2.2.2.2.2.1 (0:Int)) then (p.cmp .lss a.2.2.2.2.2.2.2.2.1 (p.ofNat a.2.2.2.2.2.2.1)) else Bool.false)<|
 opt.need _ (p.rowOk a.1 (p.add a.2.2.2.2.2.1 (p.nat a.2.2.2.2.2.2.2.2.1)) [ci,ci])<|
 opt.need _ (bif (p.cmp .geq (p.ar .sub .i64 a.2.2.2.2.2.2.2.2.1 (1:Int)) (0:Int)) then (p.cmp .lss (p.ar .sub .i64 a.2.2.2.2.2.2.2.2.1 (1:Int)) (p.ofNat a.2.2.2.2.2.2.1)) else Bool.false)<|
 opt.need _ (p.rowOk a.1 (p.add a.2.2.2.2.2.1 (p.nat (p.ar .sub .i64 a.2.2.2.2.2.2.2.2.1 (1:Int)))) [ci,ci])<|
 opt.bnd ((LD×T30)) _ (
 opt.run ((LD×T30)) (
 opt.ask _ (bif (bif (p.cmp .eql (p.rdI a.1 (p.add a.2.2.2.2.2.1 (p.nat a.2.2.2.2.2.2.2.2.1)) 0) (p.rdI a.1 (p.add a.2.2.2.2.2.1 (p.nat (p.ar .sub .i64 a.2.2.2.2.2.2.2.2.1 (1:Int)))) 0)) then (bif (p.cmp .eql (p.rdI a.1 (p.add a.2.2.2.2.2.1 (p.nat a.2.2.2.2.2.2.2.2.1)) 1) (p.rdI a.1 (p.add a.2.2.2.2.2.1 (p.nat (p.ar .sub .i64 a.2.2.2.2.2.2.2.2.1 (1:Int)))) 1)) then Bool.true else Bool.false) else Bool.false) then Bool.false else Bool.true) (
 opt.need _ (bif (p.cmp .geq a.2.2.2.2.2.2.2.2.1 (0:Int)) then (p.cmp .lss a.2.2.2.2.2.2.2.2.1 (p.ofNat a.2.2.2.2.2.2.1)) else Bool.false)<|
 opt.need _ (p.rowOk a.1 (p.add a.2.2.2.2.2.1 (p.nat a.2.2.2.2.2.2.2.2.1)) [ci,ci])<|
 opt.need _ (bif (p.cmp .geq a.2.2.2.2.1 (0:Int)) then (p.cmp .lss a.2.2.2.2.1 (p.ofNat a.2.2.1)) else Bool.false)<|
 opt.need _ (p.rowOk a.1 (p.add a.2.1 (p.nat a.2.2.2.2.1)) [ci,ci])<|
 opt.ret _ ((p.set a.1 (p.add a.2.1 (p.nat a.2.2.2.2.1)) [(D.int .i64 (p.rdI a.1 (p.add a.2.2.2.2.2.1 (p.nat a.2.2.2.2.2.2.2.2.1)) 0)),(D.int .i64 (p.rdI a.1 (p.add a.2.2.2.2.2.1 (p.nat a.2.2.2.2.2.2.2.2.1)) 1))]),(a.2.1,(a.2.2.1,(a.2.2.2.1,((p.ar .add .i64 a.2.2.2.2.1 (1:Int)),(a.2.2.2.2.2.1,(a.2.2.2.2.2.2.1,(a.2.2.2.2.2.2.2.1,(a.2.2.2.2.2.2.2.2.1,())))))))))) (
 opt.ret _ (a.1,(a.2.1,(a.2.2.1,(a.2.2.2.1,(a.2.2.2.2.1,(a.2.2.2.2.2.1,(a.2.2.2.2.2.2.1,(a.2.2.2.2.2.2.2.1,(a.2.2.2.2.2.2.2.2.1,())))))))))))) fun b=>
 opt.ret _ (Sum.inl (b.1,(b.2.1,(b.2.2.1,(b.2.2.2.1,(b.2.2.2.2.1,(b.2.2.2.2.2.1,(b.2.2.2.2.2.2.1,(b.2.2.2.2.2.2.2.1,((p.ar .add .i64 b.2.2.2.2.2.2.2.2.1 (1:Int)),()))))))))))) (
 opt.ret _ (Sum.inr (a.1,(a.2.1,(a.2.2.1,(a.2.2.2.1,(a.2.2.2.2.1,()))))))))
def c101_1 (it:It) (p:Prim):(LD×T31)→Option ((LD×T31)⊕((LD×T9)⊕(LD×T9))):=
 fun a=>opt.run _ (
 opt.ask _ (p.cmp .lss a.2.2.2.2.1 (p.ofNat a.2.2.1)) (
 opt.need _ (bif (p.cmp .geq a.2.2.2.2.1 (0:Int)) then (p.cmp .lss a.2.2.2.2.1 (p.ofNat a.2.2.1)) else Bool.false)<|
 opt.need _ (p.rowOk a.1 (p.add a.2.1 (p.nat a.2.2.2.2.1)) [ci,ci])<|
 opt.need _ (bif (p.cmp .geq (p.ar .sub .i64 a.2.2.2.2.1 (1:Int)) (0:Int)) then (p.cmp .lss (p.ar .sub .i64 a.2.2.2.2.1 (1:Int)) (p.ofNat a.2.2.1)) else Bool.false)<|
 opt.need _ (p.rowOk a.1 (p.add a.2.1 (p.nat (p.ar .sub .i64 a.2.2.2.2.1 (1:Int)))) [ci,ci])<|
 opt.ask _ (bif (p.cmp .eql (p.rdI a.1 (p.add a.2.1 (p.nat a.2.2.2.2.1)) 0) (p.rdI a.1 (p.add a.2.1 (p.nat (p.ar .sub .i64 a.2.2.2.2.1 (1:Int)))) 0)) then (bif (p.cmp .eql (p.rdI a.1 (p.add a.2.1 (p.nat a.2.2.2.2.1)) 1) (p.rdI a.1 (p.add a.2.1 (p.nat (p.ar .sub .i64 a.2.2.2.2.1 (1:Int)))) 1)) then Bool.true else Bool.false) else Bool.false) (
 opt.need _ (p.and (p.cmp .geq a.2.2.2.2.1 (0:Int)) (p.and (p.cmp .leq a.2.2.2.2.1 (p.ofNat a.2.2.1)) (p.cmp .leq (p.ofNat a.2.2.1) (p.ofNat a.2.2.1))))<|
 opt.bnd ((LD×T31)) _ (
 it _ _ (b101_2 p) (a.1,(a.2.1,(a.2.2.1,(a.2.2.2.1,(a.2.2.2.2.1,((p.add a.2.1 (p.nat a.2.2.2.2.1)),((p.sub (p.nat (p.ofNat a.2.2.1)) (p.nat a.2.2.2.2.1)),((p.sub a.2.2.2.1 (p.nat a.2.2.2.2.1)),((1:Int),())))))))))) fun b=>
 opt.need _ (p.and (p.cmp .geq b.2.2.2.2.1 (0:Int)) (p.and (p.cmp .leq b.2.2.2.2.1 (p.ofNat b.2.2.1)) (p.cmp .leq (p.ofNat b.2.2.1) (p.ofNat b.2.2.1))))<|
 opt.need _ (p.leN (p.add (p.add b.2.1 (p.nat b.2.2.2.2.1)) (p.sub (p.nat (p.ofNat b.2.2.1)) (p.nat b.2.2.2.2.1))) (p.len b.1))<|
 opt.need _ (p.and (p.cmp .geq (0:Int) (0:Int)) (p.and (p.cmp .leq (0:Int) b.2.2.2.2.1) (p.cmp .leq b.2.2.2.2.1 (p.ofNat b.2.2.1))))<|
 opt.ret _ (Sum.inr (Sum.inl ((p.splice b.1 (p.add b.2.1 (p.nat b.2.2.2.2.1)) (p.rep (p.sub (p.nat (p.ofNat b.2.2.1)) (p.nat b.2.2.2.2.1)) [(D.int .i64 (0:Int)),(D.int .i64 (0:Int))])),((p.add b.2.1 (p.nat (0:Int))),((p.sub (p.nat b.2.2.2.2.1) (p.nat (0:Int))),((p.sub b.2.2.2.1 (p.nat (0:Int))),()))))))) (
 opt.ret _ (Sum.inl (a.1,(a.2.1,(a.2.2.1,(a.2.2.2.1,((p.ar .add .i64 a.2.2.2.2.1 (1:Int)),())))))))) (
 opt.ret _ (Sum.inr (Sum.inr (a.1,(a.2.1,(a.2.2.1,(a.2.2.2.1,()))))))))
def g101 (it:It):(p:Prim)→(LD×T9)→Option ((LD×T9)):=
 fun p x=>
 opt.ask _ (p.cmp .lss (p.ofNat x.2.2.1) (2:Int)) (
 opt.ret _ (x.1,(x.2.1,(x.2.2.1,(x.2.2.2.1,()))))) (
 opt.alt ((LD×T9)) ((LD×T9)) _ (
 it _ _ (c101_1 it p) (x.1,(x.2.1,(x.2.2.1,(x.2.2.2.1,((1:Int),())))))) (fun a=>
 opt.ret _ (a.1,(a.2.1,(a.2.2.1,(a.2.2.2.1,()))))) (fun b=>
 opt.bnd ((LD×T9)) _ (some b) fun c=>
 opt.ret _ (c.1,(c.2.1,(c.2.2.1,(c.2.2.2.1,()))))))
def G101:=g101 it0
theorem ok101:CtrOk PG ctr101 (G101 std):=okF (a:=an101) (l:=la101) (gN) (by kernel_rfl) fun _ _=>by kernel_rfl
def ctr86:Ctr:=
 ⟨86,[.list 2, .clo 87 [] []],[],[(.ret,⟨[(0, .slc 0 2)],[.row [ci,ci]],1⟩)]⟩
def la86:List LA:=
 []
def ja86:List JA:=
 []
def gam86:List CF:=
 [⟨ctr101,G101⟩,⟨ctr97o,F97o⟩]
def an86:Anns:=
 ⟨gam86,ja86,[]⟩
def g86 (it:It):(p:Prim)→(LD×Unit)→Option ((LD×T9)):=
 fun p x=>
 opt.need _ (p.and (p.cmp .geq (p.ofNat (p.len x.1)) (0:Int)) (p.and (p.cmp .leq (p.ofNat (p.len x.1)) (p.ofNat (p.len x.1))) (p.cmp .leq (p.ofNat (p.len x.1)) (1000000:Int))))<|
 opt.need _ (p.and Bool.true (p.and (p.leN (p.len x.1) (p.nat (p.ofNat (p.len x.1)))) (p.leN (p.add 0 (p.nat (p.ofNat (p.len x.1)))) (p.len (p.rep (p.nat (p.ofNat (p.len x.1))) [(D.int .i64 (0:Int)),(D.int .i64 (0:Int))])))))<|
 opt.need _ (p.eqN 0 0)<|
 opt.need _ (p.eqN (p.nat (p.ofNat (p.len x.1))) (p.len (p.splice (p.rep (p.nat (p.ofNat (p.len x.1))) [(D.int .i64 (0:Int)),(D.int .i64 (0:Int))]) 0 x.1)))<|
 opt.need _ (p.eqN (p.nat (p.ofNat (p.len x.1))) (p.len (p.splice (p.rep (p.nat (p.ofNat (p.len x.1))) [(D.int .i64 (0:Int)),(D.int .i64 (0:Int))]) 0 x.1)))<|
 opt.bnd ((LD×Unit)) _ (g97o it p ((p.splice (p.rep (p.nat (p.ofNat (p.len x.1))) [(D.int .i64 (0:Int)),(D.int .i64 (0:Int))]) 0 x.1),())) fun a=>
 opt.bnd ((LD×T9)) _ (g101 it p (a.1,(0,((p.nat (p.ofNat (p.len x.1))),((p.nat (p.ofNat (p.len x.1))),()))))) fun b=>
 opt.ret _ (b.1,(b.2.1,(b.2.2.1,(b.2.2.2.1,()))))
def G86:=g86 it0
theorem ok86:CtrOk PG ctr86 (G86 std):=okF (a:=an86) (l:=la86) (gC ok101 (gC ok97o (gN))) (by kernel_rfl) fun _ _=>by kernel_rfl
def ctr89:Ctr:=
 ⟨89,[.slc 0 2],[.row [ci,ci]],[(.ret,⟨[(0, .tuple [])],[.row [ci,ci]],1⟩)]⟩
def la89:List LA:=
 [⟨89,[false,true],1,⟨⟨[(0, .slc 0 2),(2, .int .i64),(3, .int .i64)],[.row [ci,ci]],28⟩,[((AX.exit 0),⟨[],[.row [ci,ci]],28⟩)]⟩⟩]
def ja89:List JA:=
 []
def gam89:List CF:=
 []
def an89:Anns:=
 ⟨gam89,ja89,[]⟩
def b89_1 (p:Prim):(LD×T67)→Option ((LD×T67)⊕(LD×Unit)):=
 fun a=>opt.run _ (
 opt.ask _ (p.cmp .lss a.2.2.2.2.1 a.2.2.2.2.2.1) (
 opt.need _ (bif (p.cmp .geq a.2.2.2.2.2.1 (0:Int)) then (p.cmp .lss a.2.2.2.2.2.1 (p.ofNat a.2.2.1)) else Bool.false)<|
 opt.need _ (p.rowOk a.1 (p.add a.2.1 (p.nat a.2.2.2.2.2.1)) [ci,ci])<|
 opt.need _ (bif (p.cmp .geq a.2.2.2.2.1 (0:Int)) then (p.cmp .lss a.2.2.2.2.1 (p.ofNat a.2.2.1)) else Bool.false)<|
 opt.need _ (p.rowOk a.1 (p.add a.2.1 (p.nat a.2.2.2.2.1)) [ci,ci])<|
 opt.need _ (bif (p.cmp .geq a.2.2.2.2.1 (0:Int)) then (p.cmp .lss a.2.2.2.2.1 (p.ofNat a.2.2.1)) else Bool.false)<|
 opt.need _ (p.rowOk a.1 (p.add a.2.1 (p.nat a.2.2.2.2.1)) [ci,ci])<|
 opt.need _ (bif (p.cmp .geq a.2.2.2.2.2.1 (0:Int)) then (p.cmp .lss a.2.2.2.2.2.1 (p.ofNat a.2.2.1)) else Bool.false)<|
 opt.need _ (p.rowOk (p.set a.1 (p.add a.2.1 (p.nat a.2.2.2.2.1)) [(D.int .i64 (p.rdI a.1 (p.add a.2.1 (p.nat a.2.2.2.2.2.1)) 0)),(D.int .i64 (p.rdI a.1 (p.add a.2.1 (p.nat a.2.2.2.2.2.1)) 1))]) (p.add a.2.1 (p.nat a.2.2.2.2.2.1)) [ci,ci])<|
 opt.ret _ (Sum.inl ((p.set (p.set a.1 (p.add a.2.1 (p.nat a.2.2.2.2.1)) [(D.int .i64 (p.rdI a.1 (p.add a.2.1 (p.nat a.2.2.2.2.2.1)) 0)),(D.int .i64 (p.rdI a.1 (p.add a.2.1 (p.nat a.2.2.2.2.2.1)) 1))]) (p.add a.2.1 (p.nat a.2.2.2.2.2.1)) [(D.int .i64 (p.rdI a.1 (p.add a.2.1 (p.nat a.2.2.2.2.1)) 0)),(D.int .i64 (p.rdI a.1 (p.add a.2.1 (p.nat a.2.2.2.2.1)) 1))]),(a.2.1,(a.2.2.1,(a.2.2.2.1,((p.ar .add .i64 a.2.2.2.2.1 (1:Int)),((p.ar .sub .i64 a.2.2.2.2.2.1 (1:Int)),())))))))) (
 opt.ret _ (Sum.inr (a.1,()))))
def g89 (it:It):(p:Prim)→(LD×T9)→Option ((LD×Unit)):=
 fun p x=>
 opt.bnd ((LD×Unit)) _ (
 it _ _ (b89_1 p) (x.1,(x.2.1,(x.2.2.1,(x.2.2.2.1,((0:Int),((p.ar .sub .i64 (p.ofNat x.2.2.1) (1:Int)),()))))))) fun a=>
 opt.ret _ (a.1,())
def G89:=g89 it0
theorem ok89:CtrOk PG ctr89 (G89 std):=okF (a:=an89) (l:=la89) (gN) (by kernel_rfl) fun _ _=>by kernel_rfl
def ctr59:Ctr:=
 ⟨59,[.list 2],[],[(.ret,⟨[(0, .list 2)],[],1⟩)]⟩
def la59:List LA:=
 []
def ja59:List JA:=
 []
def gam59:List CF:=
 [⟨ctr89,G89⟩,⟨ctr88,G88⟩,⟨ctr86,G86⟩]
def an59:Anns:=
 ⟨gam59,ja59,[]⟩
def g59 (it:It):(p:Prim)→(LD×Unit)→Option ((LD×Unit)):=
 fun p x=>
 opt.bnd ((LD×T9)) _ (g86 it p (x.1,())) fun a=>
 opt.ask _ (p.cmp .eql (p.ofNat a.2.2.1) (1:Int)) (
 opt.need _ (p.leN (p.add a.2.1 a.2.2.1) (p.len a.1))<|
 opt.ret _ ((p.cut a.1 a.2.1 a.2.2.1),())) (
 opt.need _ (p.and (p.leN (p.add a.2.1 a.2.2.1) (p.len a.1)) Bool.true)<|
 opt.bnd ((LD×T9)) _ (g88 it p ((p.cut a.1 a.2.1 a.2.2.1),())) fun b=>
 opt.need _ (p.plain b.1)<|
 opt.bnd ((LD×Unit)) _ (g89 it p (a.1,(a.2.1,(a.2.2.1,(a.2.2.2.1,()))))) fun c=>
 opt.need _ (p.and (p.leN (p.add a.2.1 a.2.2.1) (p.len c.1)) Bool.true)<|
 opt.bnd ((LD×T9)) _ (g88 it p ((p.cut c.1 a.2.1 a.2.2.1),())) fun d=>
 opt.need _ (p.plain d.1)<|
 opt.ask _ (p.leN (p.add b.2.2.1 d.2.2.1) b.2.2.2.1) (
 opt.need _ (p.and (p.leN (p.add d.2.1 d.2.2.1) (p.len d.1)) (p.and (p.leN (p.add b.2.1 b.2.2.1) (p.len b.1)) (p.and (p.leN 1 d.2.2.1) (p.leN (p.add b.2.1 b.2.2.2.1) (p.len b.1)))))<|
 opt.need _ (p.leN (p.add b.2.1 (p.add b.2.2.1 d.2.2.1)) (p.len (p.splice b.1 (p.add b.2.1 b.2.2.1) (p.cut d.1 d.2.1 d.2.2.1))))<|
 opt.ret _ ((p.cut (p.splice b.1 (p.add b.2.1 b.2.2.1) (p.cut d.1 d.2.1 d.2.2.1)) b.2.1 (p.add b.2.2.1 d.2.2.1)),())) (
 opt.need _ (p.and (p.leN (p.add d.2.1 d.2.2.1) (p.len d.1)) (p.and (p.leN (p.add b.2.1 b.2.2.1) (p.len b.1)) (p.and (p.leN 1 d.2.2.1) (p.leN (p.add b.2.2.1 d.2.2.1) 1000000))))<|
 opt.need _ (p.leN (p.add 0 (p.add b.2.2.1 d.2.2.1)) (p.len (p.app (p.cut b.1 b.2.1 b.2.2.1) (p.cut d.1 d.2.1 d.2.2.1))))<|
 opt.ret _ ((p.cut (p.app (p.cut b.1 b.2.1 b.2.2.1) (p.cut d.1 d.2.1 d.2.2.1)) 0 (p.add b.2.2.1 d.2.2.1)),())))
def G59:=g59 it0
theorem ok59:CtrOk PG ctr59 (G59 std):=okF (a:=an59) (l:=la59) (gC ok89 (gC ok88 (gC ok86 (gN)))) (by kernel_rfl) fun _ _=>by kernel_rfl
end Go.Am
end
section
namespace Go.Am
open M06
theorem it0_eq {S R:Type} (b:S→Option (S⊕R)) (s:S):it0 S R b s=iter b s:=rfl
def Uniq (q l:List Pt):Prop:=q.Pairwise Lt∧∀ x,x∈q↔x∈l
theorem take_succ_some {α:Type} {l:List α} {i:Nat} {x:α} (h:l[i]?=some x):l.take (i+1)=l.take i++[x]:=by
 rw [List.take_add_one,h]; rfl
theorem uniq_same {q l:List Pt} {i:Nat} {x:Pt} (h:Uniq q (l.take i)) (hx:l[i]?=some x) (hy:x∈l.take i):Uniq q (l.take (i+1)):=by
 refine ⟨h.1,fun z=>?_⟩
 rw [h.2 z,take_succ_some hx]
 simp only [List.mem_append,List.mem_singleton]
 exact ⟨.inl,fun h=>h.elim id fun e=>e▸hy⟩
theorem uniq_more {q l:List Pt} {i:Nat} {x y:Pt} (hs:l.Pairwise (fun a b=>¬ Lt b a)) (h:Uniq q (l.take (i+1))) (hy:l[i]?=some y) (hx:l[i+1]?=some x) (hne:x≠y):Uniq (q++[x]) (l.take (i+2)):=by
 have hs':=List.pairwise_iff_getElem.1 hs
 obtain ⟨i1,e1⟩:=List.getElem?_eq_some_iff.1 hx
 obtain ⟨i0,e0⟩:=List.getElem?_eq_some_iff.1 hy
 have hlt:Lt y x:=by
  have:=hs' i (i+1) i0 i1 (by omega)
  rw [e0,e1] at this
  rcases lt_tri y x with h|h|h
  ·exact h
  ·exact absurd h.symm hne
  ·exact absurd h this
 refine ⟨List.pairwise_append.2 ⟨h.1,by simp,fun a ha b hb=>?_⟩,fun z=>?_⟩
 ·simp at hb; subst hb
  have ha':=(h.2 a).1 ha
  obtain ⟨j,hj⟩:=List.getElem?_of_mem ha'
  have hj1:j<i+1:=by
   have:=(List.getElem?_eq_some_iff.1 hj).1
   rw [List.length_take] at this; omega
  rw [List.getElem?_take_of_lt hj1] at hj
  obtain ⟨j0,ej⟩:=List.getElem?_eq_some_iff.1 hj
  by_cases hji:j=i
  ·subst hji
   rw [e0] at ej; subst ej; exact hlt
  ·have:=hs' j i j0 i0 (by omega)
   rw [ej,e0] at this
   rcases lt_tri a y with h|h|h
   ·exact h.trans hlt
   ·exact h▸hlt
   ·exact absurd h this
 ·rw [take_succ_some hx]
  simp only [List.mem_append,List.mem_singleton,h.2 z]
theorem eP_inj {p q:Pt}:(p.1=q.1∧p.2=q.2)↔p=q:=⟨fun h=>Prod.ext h.1 h.2,fun h=>by rw [h]; exact ⟨rfl,rfl⟩⟩
theorem encP_get {l:List Pt} {i:Nat} {p:Pt} (h:l[i]?=some p):(encP l)[i]?=some (eP p):=by simp [encP,h]
theorem encP_set (l:List Pt) (i:Nat) (p:Pt):(encP l).set i (eP p)=encP (l.set i p):=by simp [encP,List.map_set]
theorem encP_len (l:List Pt):(encP l).length=l.length:=by simp [encP]
theorem eP_eq (p:Pt):[D.int IntKind.i64 p.1,D.int IntKind.i64 p.2]=eP p:=rfl
theorem G101_inner {l:List Pt} (hs:l.Pairwise (fun a b=>¬ Lt b a)) (hn:l.length≤1000000) {k0:Nat} (hk1:1≤k0) (hk0:k0<l.length) (h0:Uniq (l.take k0) (l.take (k0+1))) (cap:Nat):
  ∃ (L:List Pt) (k:Nat),iter (b101_2 std) (encP l,(0:Nat),l.length,cap,(k0:Int),k0,l.length - k0,cap - k0,(1:Int),())=some (encP L,(0:Nat),l.length,cap,(k:Int),())∧L.length=l.length∧1≤k∧k≤l.length∧Uniq (L.take k) l:=by
 have key:=iter_count (b:=b101_2 std) (l.length - k0) (fun (t:List Pt×Nat) (i:Nat)=>(encP t.1,(0:Nat),l.length,cap,(t.2:Int),k0,l.length - k0,cap - k0,(i:Int),()))
  (fun t i=>1≤i∧t.1.length=l.length∧1≤t.2∧t.2≤k0+i - 1∧(∀ j,k0+i - 1≤j→t.1[j]?=l[j]?)∧Uniq (t.1.take t.2) (l.take (k0+i)))
  (fun r=>∃ (L:List Pt) (k:Nat),r=(encP L,(0:Nat),l.length,cap,(k:Int),())∧L.length=l.length∧1≤k∧k≤l.length∧Uniq (L.take k) l) ?_ ?_ (l,k0) 1 (by omega) ⟨Nat.le_refl _,rfl,hk1,by omega,fun _ _=>rfl,h0⟩
 ·obtain ⟨r,hr,L,k,rfl,h1,h2,h3,h4⟩:=key
  exact ⟨L,k,hr,h1,h2,h3,h4⟩
 ·rintro ⟨L,k⟩ i hi ⟨hi1,hL,hk,hki,hrest,hu⟩
  simp only at hL hk hki hrest hu
  left
  obtain ⟨x,hx⟩:=get_some (l:=l) (i:=k0+i) (by omega)
  obtain ⟨y,hy⟩:=get_some (l:=l) (i:=k0+i - 1) (by omega)
  have hLx:L[k0+i]?=some x:=by rw [hrest _ (by omega)]; exact hx
  have hLy:L[k0+(i - 1)]?=some y:=by
   have e:k0+(i - 1)=k0+i - 1:=by omega
   rw [e,hrest _ (by omega)]; exact hy
  have hLk:∃ z,L[k]?=some z:=get_some (by omega)
  obtain ⟨z,hz⟩:=hLk
  have c1:(i:Int)<((l.length - k0:Nat):Int):=by omega
  have c2:(i:Int)≥0:=by omega
  have c3:(i:Int) - 1≥0:=by omega
  have c4:(i:Int) - 1<((l.length - k0:Nat):Int):=by omega
  have hw:=wrap_nat (i:=i) (by omega)
  have hwk:=wrap_nat (i:=k) (by omega)
  have hw1:IntKind.i64.wrap ((i:Int) - 1)=((i - 1:Nat):Int):=by rw [wrap64]<;>omega
  have c3':((i - 1:Nat):Int)≥0:=by omega
  have c4':((i - 1:Nat):Int)<((l.length - k0:Nat):Int):=by omega
  have c5:(k:Int)≥0:=by omega
  have c6:(k:Int)<(l.length:Int):=by omega
  have gx:=encP_get hLx
  have gy:=encP_get hLy
  have gz:=encP_get hz
  have ey:l[k0+i - 1]?=some y:=hy
  have e1:k0+i - 1+1=k0+i:=by omega
  by_cases hxy:x=y
  ·refine ⟨(L,k),?_,by omega,hL,hk,by omega,fun j hj=>hrest j (by omega),?_⟩
   ·have:=eP_inj.2 hxy
    simp only [b101_2,stdS,stdL,cells_eP,dI_eP0,dI_eP1,eP_eq,encP_set,encP_len,std_ar_sub,std_ar_add,hw,hw1,c1,c2,c3',c4',gx,gy,this.1,this.2]
   ·have hm:x∈l.take (k0+i):=by
     rw [hxy]
     have:(l.take (k0+i))[k0+i - 1]?=some y:=by rw [List.getElem?_take_of_lt (by omega)]; exact hy
     exact List.mem_of_getElem? this
    exact uniq_same hu hx hm
  ·refine ⟨(L.set k x,k+1),?_,by omega,by simpa using hL,by omega,by omega,fun j hj=>?_,?_⟩
   ·by_cases k1:x.1=y.1
    ·have k2:¬ x.2=y.2:=fun h=>hxy (eP_inj.1 ⟨k1,h⟩)
     simp only [b101_2,stdS,stdL,cells_eP,dI_eP0,dI_eP1,eP_eq,encP_set,encP_len,std_ar_sub,std_ar_add,hw,hw1,hwk,c1,c2,c3',c4',c5,c6,gx,gy,gz,eq_true k1,eq_false k2]
    ·simp only [b101_2,stdS,stdL,cells_eP,dI_eP0,dI_eP1,eP_eq,encP_set,encP_len,std_ar_sub,std_ar_add,hw,hw1,hwk,c1,c2,c3',c4',c5,c6,gx,gy,gz,eq_false k1]
   ·simp only at hj⊢
    rw [List.getElem?_set_ne (by omega)]; exact hrest j (by omega)
   ·simp only
    have ht:(L.set k x).take (k+1)=L.take k++[x]:=by
     rw [List.take_add_one,List.take_set_of_le (Nat.le_refl _),List.getElem?_set_self (by omega)]; rfl
    rw [ht]
    have hu':Uniq (L.take k) (l.take (k0+i - 1+1)):=by rw [e1]; exact hu
    have:=uniq_more hs hu' hy (by rw [e1]; exact hx) hxy
    have e2:k0+i - 1+2=k0+(i+1):=by omega
    rw [e2] at this; exact this
 ·rintro ⟨L,k⟩ ⟨hi1,hL,hk,hki,hrest,hu⟩
  simp only at hL hk hki hrest hu
  have hn:¬ (((l.length - k0:Nat):Int)<((l.length - k0:Nat):Int)):=by omega
  refine ⟨(encP L,(0:Nat),l.length,cap,(k:Int),()),?_,L,k,rfl,hL,hk,by omega,?_⟩
  ·simp only [b101_2,stdS,stdL,hn]
  ·have e:k0+(l.length - k0)=l.length:=by omega
   rw [e,List.take_length] at hu; exact hu
theorem G101_ok {l:List Pt} (hs:l.Pairwise (fun a b=>¬ Lt b a)) (hn:l.length≤1000000):
  ∃ (L:List Pt) (m:Nat),G101 std (encP l,(0:Nat),l.length,l.length,())=some (encP L,(0:Nat),m,l.length,())∧L.length=l.length∧m≤l.length∧Uniq (L.take m) l:=by
 unfold G101
 by_cases h2:l.length<2
 ·refine ⟨l,l.length,?_,rfl,Nat.le_refl _,?_⟩
  ·have:(l.length:Int)<2:=by omega
   simp only [g101,stdS,stdL,this]
  ·rw [List.take_length]
   refine ⟨?_,fun _=>Iff.rfl⟩
   match l,h2 with
   |[],_=>exact .nil
   |[a],_=>simp
   |a::b::r,h2=>simp at h2; omega
 have h2':¬ (l.length:Int)<2:=by omega
 have key:=iter_count (b:=c101_1 it0 std) l.length (fun (_:Unit) (i:Nat)=>(encP l,(0:Nat),l.length,l.length,(i:Int),()))
  (fun _ i=>1≤i∧Uniq (l.take i) (l.take i))
  (fun r=>∃ (L:List Pt) (m:Nat),(r= .inl (encP L,(0:Nat),m,l.length,())∨r= .inr (encP L,(0:Nat),m,l.length,()))∧L.length=l.length∧m≤l.length∧Uniq (L.take m) l) ?_ ?_ () 1 (by omega) ⟨Nat.le_refl _,?_⟩
 ·obtain ⟨r,hr,L,m,h,h3,h4,h5⟩:=key
  refine ⟨L,m,?_,h3,h4,h5⟩
  simp only [g101,it0_eq,stdS,stdL,h2']
  have e0:((1:Nat):Int)=1:=rfl
  rw [e0] at hr
  rw [hr]
  rcases h with rfl|rfl<;>rfl
 ·rintro _ i hi ⟨hi1,hu⟩
  obtain ⟨x,hx⟩:=get_some (l:=l) (i:=i) hi
  obtain ⟨y,hy⟩:=get_some (l:=l) (i:=i - 1) (by omega)
  have c1:(i:Int)<(l.length:Int):=by omega
  have c2:(i:Int)≥0:=by omega
  have hw:=wrap_nat (i:=i) (by omega)
  have hw1:IntKind.i64.wrap ((i:Int) - 1)=((i - 1:Nat):Int):=by rw [wrap64]<;>omega
  have c3':((i - 1:Nat):Int)≥0:=by omega
  have c4':((i - 1:Nat):Int)<(l.length:Int):=by omega
  have gx:=encP_get hx
  have gy:=encP_get hy
  have e1:i - 1+1=i:=by omega
  by_cases hxy:x=y
  ·right
   have hm:x∈l.take i:=by
    rw [hxy]
    have:(l.take i)[i - 1]?=some y:=by rw [List.getElem?_take_of_lt (by omega)]; exact hy
    exact List.mem_of_getElem? this
   obtain ⟨L,k,hit,hL,hk,hkl,hU⟩:=G101_inner hs hn hi1 hi (uniq_same hu hx hm) l.length
   have d1:(k:Int)≥0:=by omega
   have d2:(k:Int)≤(l.length:Int):=by omega
   have d3:k+(l.length - k)≤l.length:=by omega
   have c5:(i:Int)≤(l.length:Int):=by omega
   have c6:(l.length:Int)≤(l.length:Int):=by omega
   have c7:(0:Int)≥0:=by omega
   have c8:(0:Int)≤(k:Int):=by omega
   have:=eP_inj.2 hxy
   have hz:[D.int IntKind.i64 (0:Int),D.int IntKind.i64 (0:Int)]=eP (0,0):=rfl
   have hsp:encP L=encP L:=rfl
   refine ⟨.inl (encP (L.take k++List.replicate (l.length - k) (0,0)++L.drop (k+(l.length - k))),(0:Nat),k,l.length,()),?_,_,_, .inl rfl,?_,hkl,?_⟩
   ·simp only [c101_1,it0_eq,stdS,stdL,cells_eP,dI_eP0,dI_eP1,eP_eq,encP_set,encP_len,std_ar_sub,std_ar_add,hw,hw1,c1,c2,c3',c4',c5,c6,c7,c8,d1,d2,d3,gx,gy,this.1,this.2,hit,hL,Int.toNat_zero,Nat.sub_zero,hz,List.length_replicate,Nat.add_zero]
    simp [encP]
   ·simp [hL]; omega
   ·rw [List.take_append_of_le_length (by simp; omega),List.take_append_of_le_length (by simp; omega),List.take_take,Nat.min_self]
    exact hU
  ·left
   refine ⟨(),?_,by omega,?_⟩
   ·by_cases k1:x.1=y.1
    ·have k2:¬ x.2=y.2:=fun h=>hxy (eP_inj.1 ⟨k1,h⟩)
     simp only [c101_1,it0_eq,stdS,stdL,cells_eP,dI_eP0,dI_eP1,eP_eq,encP_set,encP_len,std_ar_sub,std_ar_add,hw,hw1,c1,c2,c3',c4',gx,gy,k1,k2]
    ·simp only [c101_1,it0_eq,stdS,stdL,cells_eP,dI_eP0,dI_eP1,eP_eq,encP_set,encP_len,std_ar_sub,std_ar_add,hw,hw1,c1,c2,c3',c4',gx,gy,k1]
   ·have hu':Uniq (l.take i) (l.take (i - 1+1)):=by rw [e1]; exact hu
    have:=uniq_more hs hu' hy (by rw [e1]; exact hx) hxy
    have e2:i - 1+2=i+1:=by omega
    rw [e2] at this
    rw [take_succ_some hx] at this⊢
    exact this
 ·rintro _ ⟨hi1,hu⟩
  have hnn:¬ ((l.length:Int)<(l.length:Int)):=by omega
  refine ⟨.inr (encP l,(0:Nat),l.length,l.length,()),?_,l,l.length, .inr rfl,rfl,Nat.le_refl _,?_⟩
  ·simp only [c101_1,it0_eq,stdS,stdL,hnn]
  ·rw [List.take_length] at hu⊢; exact hu
 ·match l,h2 with
  |a::r,_=>exact ⟨by simp,fun _=>Iff.rfl⟩
  |[],h2=>exact absurd (by simp) h2
end Go.Am
end
section
namespace M06
def far (a b:Pt):Int:=dt (sb a b) (sb a b)
def Nx (S:List Pt) (a b:Pt):Prop:=b∈S∧a≠b∧∀ x∈S,0≤cr a b x∧(cr a b x=0→0≤dt (sb b a) (sb x a)∧far a x≤far a b)
def Pth (S:List Pt):List Pt→Prop
 |a::b::l=>Nx S a b∧Pth S (b::l)
 |_=>True
def Cyc (S:List Pt):List Pt→Prop
 |[]=>False
 |c0::r=>c0∈S∧(∀ x∈S,Le c0 x)∧((r=[]∧∀ x∈S,x=c0)∨(r≠[]∧Pth S (c0::r++[c0])∧c0∉r))
theorem Pth.tail {S:List Pt} {a:Pt} {l:List Pt} (h:Pth S (a::l)):Pth S l:=by
 match l,h with
 |[],_=>trivial
 |_::_,h=>exact h.2
theorem pth_join {S:List Pt} {m:Pt}:∀ {l r:List Pt},Pth S (l++[m])→Pth S (m::r)→Pth S (l++m::r)
 |[],r,_,h=>h
 |[a],r,h1,h2=>⟨h1.1,h2⟩
 |a::b::l,r,h1,h2=>⟨h1.1,pth_join (l:=b::l) h1.2 h2⟩
theorem btw_far {s t x:Pt} (hst:Lt s t) (h1:Le s x) (h2:Le x t) (hc:cr s t x=0):0≤dt (sb t s) (sb x s)∧far s x≤far s t:=by
 rcases h1 with rfl|h1
 ·refine ⟨by simp [dt,sb],?_⟩
  simp only [far,dt,sb]
  have a:=sqn (s.1 - t.1)
  have b:=sqn (s.2 - t.2)
  simp; omega
 obtain ⟨s1,s2⟩:=s; obtain ⟨t1,t2⟩:=t; obtain ⟨x1,x2⟩:=x
 simp only [Lt,Le,Pos,sb,cr,crs,far,dt,Prod.mk.injEq] at*
 generalize hT1:t1 - s1=T1 at*
 generalize hT2:t2 - s2=T2 at*
 generalize hX1:x1 - s1=X1 at*
 generalize hX2:x2 - s2=X2 at*
 have e1:s1 - x1= -X1:=by omega
 have e2:s2 - x2= -X2:=by omega
 have e3:s1 - t1= -T1:=by omega
 have e4:s2 - t2= -T2:=by omega
 rw [e1,e2,e3,e4]
 have k1:0≤T1:=by omega
 have k2:0≤X1∧X1≤T1:=by omega
 rcases Int.lt_or_eq_of_le k1 with hp|hz
 ·have q1:0≤X1*T1:=Int.mul_nonneg k2.1 k1
  have hcc:T1*X2=T2*X1:=by omega
  have q3:X1*X1≤T1*T1:=Int.mul_le_mul k2.2 k2.2 k2.1 k1
  have q2:(T2*X2)*T1=T2*T2*X1:=by grind
  have q4:0≤T2*T2*X1:=Int.mul_nonneg (sqn _) k2.1
  have q5:0≤T2*X2:=by
   refine Classical.byContradiction fun hn=>?_
   have:=Int.mul_neg_of_neg_of_pos (Int.not_le.1 hn) hp
   omega
  have q6:(X2*X2)*(T1*T1)=(T2*T2)*(X1*X1):=by grind
  have q7:(T2*T2)*(X1*X1)≤(T2*T2)*(T1*T1):=Int.mul_le_mul_of_nonneg_left q3 (sqn _)
  have q8:0<T1*T1:=Int.mul_pos hp hp
  have q9:X2*X2≤T2*T2:=by
   refine Classical.byContradiction fun hn=>?_
   have:=Int.mul_lt_mul_of_pos_right (Int.not_le.1 hn) q8
   omega
  refine ⟨?_,?_⟩
  ·have:T1*X1=X1*T1:=Int.mul_comm _ _
   omega
  ·simp only [Int.neg_mul_neg]; omega
 ·have hX:X1=0:=by omega
  subst hX
  rw [←hz]
  have r1:0≤X2:=by omega
  have r2:X2≤T2:=by omega
  have r3:0≤T2:=by omega
  refine ⟨?_,?_⟩
  ·have:=Int.mul_nonneg r3 r1; simp; exact this
  ·simp only [Int.neg_mul_neg]
   have:=Int.mul_le_mul r2 r2 r1 r3
   simp; omega
theorem pth_stack {S:List Pt}:∀ {st:List Pt},Desc st→(∀ x∈S,Edge st x)→(∀ y∈st,y∈S)→Pth S st.reverse
 |[],_,_,_=>trivial
 |[_],_,_,_=>trivial
 |t::s::r,hd,he,hs=>by
  have ih:=pth_stack (st:=s::r) hd.2 (fun x hx=>(he x hx).2) (fun y hy=>hs y (List.mem_cons_of_mem _ hy))
  rw [List.reverse_cons,List.reverse_cons] at*
  rw [List.append_assoc]
  refine pth_join ih ⟨⟨hs t (by simp),hd.1.ne,fun x hx=>?_⟩,trivial⟩
  have e:=(he x hx).1
  exact ⟨e.1,fun h0=>btw_far hd.1 (e.2 h0).1 (e.2 h0).2 h0⟩
def ng (a:Pt):Pt:=(-a.1, -a.2)
theorem ng_ng (a:Pt):ng (ng a)=a:=by simp [ng]
theorem ng_cr (a b c:Pt):cr (ng a) (ng b) (ng c)=cr a b c:=by simp only [cr,crs,sb,ng]; grind
theorem ng_lt (a b:Pt):Lt (ng a) (ng b)↔Lt b a:=by simp only [Lt,Pos,sb,ng]; omega
theorem ng_far (a b:Pt):far (ng a) (ng b)=far a b:=by simp only [far,dt,sb,ng]; grind
theorem ng_dt (a b c:Pt):dt (sb (ng b) (ng a)) (sb (ng c) (ng a))=dt (sb b a) (sb c a):=by simp only [dt,sb,ng]; grind
theorem ng_inj {a b:Pt} (h:ng a=ng b):a=b:=by rw [←ng_ng a,h,ng_ng]
theorem pop_ng (p:Pt):∀ st:List Pt,pop (ng p) (st.map ng)=(pop p st).map ng
 |[]=>by simp [pop]
 |[t]=>by simp [pop_one]
 |t::s::r=>by
  have ih:=pop_ng p (s::r)
  simp only [List.map_cons] at ih⊢
  by_cases h:cr s t p≤0
  ·rw [pop_eq1 p h,pop_eq1 (ng p) (by rw [ng_cr]; exact h),ih]
  ·rw [pop_eq2 p h,pop_eq2 (ng p) (by rw [ng_cr]; exact h)]; rfl
theorem fold_ng:∀ (l st:List Pt),(l.map ng).foldl push (st.map ng)=(l.foldl push st).map ng
 |[],_=>rfl
 |p::l,st=>by
  simp only [List.map_cons,List.foldl_cons]
  rw [←fold_ng l (push st p)]
  congr 1
  simp only [push,List.map_cons,pop_ng]
theorem nx_ng {S:List Pt} {a b:Pt} (h:Nx (S.map ng) (ng a) (ng b)):Nx S a b:=by
 obtain ⟨h1,h2,h3⟩:=h
 refine ⟨?_,fun e=>h2 (by rw [e]),fun x hx=>?_⟩
 ·obtain ⟨y,hy,e⟩:=List.mem_map.1 h1
  rw [←ng_inj e]; exact hy
 ·have:=h3 (ng x) (List.mem_map.2 ⟨x,hx,rfl⟩)
  rwa [ng_cr,ng_far,ng_far,ng_dt] at this
theorem pth_ng {S:List Pt}:∀ {l:List Pt},Pth (S.map ng) (l.map ng)→Pth S l
 |[],_=>trivial
 |[_],_=>trivial
 |a::b::l,h=>⟨nx_ng h.1,pth_ng (l:=b::l) h.2⟩
end M06
end
section
namespace Go.Am
open M06
theorem small_wraps {s t p:Pt} (hs:Small s) (ht:Small t) (hp:Small p):
  IntKind.i64.wrap (t.1 - s.1)=t.1 - s.1∧IntKind.i64.wrap (t.2 - s.2)=t.2 - s.2∧IntKind.i64.wrap (p.1 - s.1)=p.1 - s.1∧IntKind.i64.wrap (p.2 - s.2)=p.2 - s.2∧
  IntKind.i64.wrap ((t.1 - s.1)*(p.2 - s.2))=(t.1 - s.1)*(p.2 - s.2)∧IntKind.i64.wrap ((t.2 - s.2)*(p.1 - s.1))=(t.2 - s.2)*(p.1 - s.1)∧
  IntKind.i64.wrap ((t.1 - s.1)*(p.2 - s.2) - (t.2 - s.2)*(p.1 - s.1))=cr s t p:=by
 obtain ⟨a1,a2,a3,a4⟩:=hs
 obtain ⟨b1,b2,b3,b4⟩:=ht
 obtain ⟨c1,c2,c3,c4⟩:=hp
 have big:∀ {a b:Int}, -2097152≤a→a≤2097152→ -2097152≤b→b≤2097152→ -4398046511104≤a*b∧a*b≤4398046511104:=by
  intro a b h1 h2 h3 h4
  have e1:=Int.mul_nonneg (show 0≤2097152 - a by omega) (show 0≤2097152 - b by omega)
  have e2:=Int.mul_nonneg (show 0≤2097152+a by omega) (show 0≤2097152+b by omega)
  have e3:=Int.mul_nonneg (show 0≤2097152 - a by omega) (show 0≤2097152+b by omega)
  have e4:=Int.mul_nonneg (show 0≤2097152+a by omega) (show 0≤2097152 - b by omega)
  simp only [Int.sub_mul,Int.add_mul,Int.mul_sub,Int.mul_add] at e1 e2 e3 e4
  omega
 have m1:=big (a:=t.1 - s.1) (b:=p.2 - s.2) (by omega) (by omega) (by omega) (by omega)
 have m2:=big (a:=t.2 - s.2) (b:=p.1 - s.1) (by omega) (by omega) (by omega) (by omega)
 refine ⟨?_,?_,?_,?_,?_,?_,?_⟩
 any_goals (rw [wrap64]<;>omega)
 rw [wrap64 _ (by omega) (by omega)]
 rfl
theorem pop_loop {L:List Pt} {p:Pt} (hp:Small p) (hL:∀ x∈L,Small x) (hLn:L.length≤1000000) (les:List (List D)) (n i:Int):
  ∀ (k:Nat) (s tl:List Pt),s.length=k→L=s.reverse++tl→
   iter (b88_2 std) (encP L,p.1,p.2,(0:Nat),s.length,les,n,i,())=some (encP L,p.1,p.2,(0:Nat),(pop p s).length,les,n,i,()):=by
 intro k
 induction k with
 |zero=>
  intro s tl hk hl
  have:s=[]:=List.length_eq_zero_iff.1 hk
  subst this
  rw [iter_unfold]
  have hn:¬ ((0:Nat):Int)>1:=by omega
  have:b88_2 std (encP L,p.1,p.2,(0:Nat),([]:List Pt).length,les,n,i,())=some (.inr (encP L,p.1,p.2,(0:Nat),0,les,n,i,())):=by
   simp only [b88_2,stdS,stdL,hn]
  rw [this]
  have:pop p []=[]:=by simp [pop]
  rw [this]; rfl
 |succ k ih=>
  intro s tl hk hl
  match s,hk,hl with
  |[t],hk,hl=>
   rw [iter_unfold]
   have hn:¬ ((1:Nat):Int)>1:=by omega
   have:b88_2 std (encP L,p.1,p.2,(0:Nat),[t].length,les,n,i,())=some (.inr (encP L,p.1,p.2,(0:Nat),1,les,n,i,())):=by
    simp only [b88_2,stdS,stdL,hn]
   rw [this,pop_one]; rfl
  |t::s::r,hk,hl=>
   rw [iter_unfold]
   have hlen:(t::s::r).length=r.length+2:=rfl
   rw [hlen]
   have hLl:L.length=r.length+2+tl.length:=by rw [hl]; simp; omega
   have ht:L[r.length+1]?=some t:=by
    rw [hl]
    simp only [List.reverse_cons,List.append_assoc,List.cons_append,List.nil_append]
    rw [List.getElem?_append_right (by simp)]
    simp
   have hs:L[r.length]?=some s:=by
    rw [hl]
    simp only [List.reverse_cons,List.append_assoc,List.cons_append,List.nil_append]
    rw [List.getElem?_append_right (by simp)]
    simp
   have gt:=encP_get ht
   have gs:=encP_get hs
   obtain ⟨w1,w2,w3,w4,w5,w6,w7⟩:=small_wraps (hL s (List.mem_of_getElem? hs)) (hL t (List.mem_of_getElem? ht)) hp
   have c1:((r.length+2:Nat):Int)>1:=by omega
   have v1:IntKind.i64.wrap (((r.length+2:Nat):Int) - 1)=((r.length+1:Nat):Int):=by rw [wrap64]<;>omega
   have v2:IntKind.i64.wrap (((r.length+2:Nat):Int) - 2)=(r.length:Int):=by rw [wrap64]<;>omega
   have c2:((r.length+1:Nat):Int)≥0:=by omega
   have c3:((r.length+1:Nat):Int)<((r.length+2:Nat):Int):=by omega
   have c4:(r.length:Int)≥0:=by omega
   have c5:(r.length:Int)<((r.length+2:Nat):Int):=by omega
   have c6:(0:Int)≤((r.length+1:Nat):Int):=by omega
   have c7:((r.length+1:Nat):Int)≤((r.length+2:Nat):Int):=by omega
   have c8:r.length+1≤L.length:=by omega
   have c9:(0:Int)≥0:=by omega
   have c10:((r.length+1:Nat):Int)≤((r.length+1:Nat):Int):=by omega
   by_cases hc:cr s t p≤0
   ·have hb:b88_2 std (encP L,p.1,p.2,(0:Nat),r.length+2,les,n,i,())=some (.inl (encP L,p.1,p.2,(0:Nat),r.length+1,les,n,i,())):=by
     simp only [b88_2,stdS,stdL,cells_eP,dI_eP0,dI_eP1,eP_eq,encP_set,encP_len,std_ar_sub,std_ar_mul,v1,v2,c1,c2,c3,c4,c5,c6,c7,c8,c9,c10,gt,gs,w1,w2,w3,w4,w5,w6,w7,hc,Int.toNat_zero,Nat.sub_zero,Nat.add_zero]
    rw [hb,pop_eq1 p hc]
    exact ih (s::r) (t::tl) (by simpa using hk) (by rw [hl]; simp)
   ·have hb:b88_2 std (encP L,p.1,p.2,(0:Nat),r.length+2,les,n,i,())=some (.inr (encP L,p.1,p.2,(0:Nat),r.length+2,les,n,i,())):=by
     simp only [b88_2,stdS,stdL,cells_eP,dI_eP0,dI_eP1,eP_eq,encP_set,encP_len,std_ar_sub,std_ar_mul,v1,v2,c1,c2,c3,c4,c5,c6,c7,c8,c9,c10,gt,gs,w1,w2,w3,w4,w5,w6,w7,hc,Int.toNat_zero,Nat.sub_zero,Nat.add_zero]
    rw [hb,pop_eq2 p hc]; rfl
theorem pop_suffix (p:Pt):∀ s:List Pt,∃ a,s=a++pop p s
 |[]=>⟨[],by simp [pop]⟩
 |[t]=>⟨[],by rw [pop_one]; rfl⟩
 |t::s::r=>by
  by_cases h:cr s t p≤0
  ·obtain ⟨a,ha⟩:=pop_suffix p (s::r)
   exact ⟨t::a,by rw [pop_eq1 p h,List.cons_append, ←ha]⟩
  ·exact ⟨[],by rw [pop_eq2 p h]; rfl⟩
theorem fold_small {l st:List Pt} (hl:∀ x∈l,Small x) (hst:∀ x∈st,Small x):∀ x∈l.foldl push st,Small x:=by
 induction l generalizing st with
 |nil=>exact hst
 |cons p l ih=>
  refine ih (fun x hx=>hl x (List.mem_cons_of_mem _ hx)) (fun x hx=>?_)
  rcases List.mem_cons.1 hx with rfl|hx
  ·exact hl _ (by simp)
  ·obtain ⟨a,ha⟩:=pop_suffix p st
   exact hst x (by rw [ha]; exact List.mem_append_right _ hx)
theorem fold_len {l st:List Pt}:(l.foldl push st).length≤st.length+l.length:=by
 induction l generalizing st with
 |nil=>simp
 |cons p l ih=>
  have h:=ih (st:=push st p)
  obtain ⟨a,ha⟩:=pop_suffix p st
  have h2:(push st p).length=(pop p st).length+1:=rfl
  have h3:st.length=a.length+(pop p st).length:=by
   have:=congrArg List.length ha
   rwa [List.length_append] at this
  simp only [List.foldl_cons,List.length_cons]
  omega
def chain (l:List Pt):List Pt:=(l.foldl push []).reverse
theorem G88_ok {l:List Pt} (hl:∀ x∈l,Small x) (hn:l.length≤100000) (h1:1≤l.length):
  G88 std (encP l,())=some (encP (chain l),(0:Nat),(chain l).length - 1,(chain l).length - 1,())∧1≤(chain l).length∧(chain l).length≤l.length:=by
 have hlen:(chain l).length≤l.length:=by
  have:=fold_len (l:=l) (st:=[])
  simp [chain]; simpa using this
 have hpos:1≤(chain l).length:=by
  match l,h1 with
  |p::r,_=>
   have:∀ (r st:List Pt),st≠[]→r.foldl push st≠[]:=by
    intro r
    induction r with
    |nil=>intro st h; exact h
    |cons q r ih=>intro st h; exact ih _ (by simp [push])
   have h2:=this r (push [] p) (by simp [push])
   have:(chain (p::r))≠[]:=by simp only [chain,List.foldl_cons]; simpa using h2
   exact List.length_pos_iff.2 this
 refine ⟨?_,hpos,hlen⟩
 have key:=iter_to (b:=c88_1 it0 std) (fun (i:Nat)=>(encP (chain (l.take i)),encP l,(l.length:Int),(i:Int),())) (fun i=>i≤l.length) (fun i=>l.length - i) (fun _=>(encP (chain l),())) (fun i hi=>by
  by_cases hlt:i<l.length
  ·left
   obtain ⟨p,hp⟩:=get_some hlt
   have hps:=hl p (List.mem_of_getElem? hp)
   have gp:=encP_get hp
   have c1:(i:Int)<(l.length:Int):=by omega
   have c2:(i:Int)≥0:=by omega
   have hw:=wrap_nat (i:=i) (by omega)
   have hst:∀ x∈chain (l.take i),Small x:=fun x hx=>fold_small (l:=l.take i) (st:=[]) (fun y hy=>hl y (List.mem_of_mem_take hy)) (by simp) x (by simpa [chain] using hx)
   have hll:(chain (l.take i)).length≤i:=by
    have:=fold_len (l:=l.take i) (st:=[])
    simp [chain]; simp at this; omega
   have hloop:=pop_loop (L:=chain (l.take i)) hps hst (by omega) (encP l) (l.length:Int) (i:Int) _ ((l.take i).foldl push []) [] rfl (by simp [chain])
   have hcl:((l.take i).foldl push []).length=(chain (l.take i)).length:=by simp [chain]
   rw [hcl] at hloop
   obtain ⟨a,ha⟩:=pop_suffix p ((l.take i).foldl push [])
   generalize hq:pop p ((l.take i).foldl push [])=q at hloop ha
   have hch:chain (l.take i)=q.reverse++a.reverse:=by simp only [chain,ha,List.reverse_append]
   have hcut:(encP (chain (l.take i))).take q.length=encP q.reverse:=by
    rw [hch]; simp [encP]
   have hql:q.length≤(chain (l.take i)).length:=by rw [hch]; simp
   have hnew:chain (l.take (i+1))=q.reverse++[p]:=by
    rw [chain,take_succ_some hp,List.foldl_append]
    simp only [List.foldl_cons,List.foldl_nil,push,hq,List.reverse_cons]
   refine ⟨i+1,?_,by omega,by omega,rfl⟩
   rw [hnew]
   have d1:q.length+1≤1000000:=by omega
   have d2:encP q.reverse++[eP p]=encP (q.reverse++[p]):=by simp [encP]
   have d4:q.length+1=(q.reverse++[p]).length:=by simp
   have d3:(encP q.reverse++[eP p]).length=q.length+1:=by simp [encP]
   simp only [c88_1,it0_eq,stdS,stdL,cells_eP,dI_eP0,dI_eP1,eP_eq,encP_set,encP_len,std_ar_add,hw,c1,c2,gp,hloop,List.drop_zero,hcut,hql,d1,List.take_succ_cons,List.take_zero,d3,Nat.le_refl,d2, ←d4]
  ·right
   have:i=l.length:=by omega
   subst this
   have hn:¬ ((l.length:Int)<(l.length:Int)):=by omega
   simp only [c88_1,it0_eq,stdS,stdL,hn,List.take_length]) 0 (Nat.zero_le _)
 have e0:(encP (chain (l.take 0)),encP l,(l.length:Int),((0:Nat):Int),())=(([]:List (List D)),encP l,std.ofNat (std.len (encP l)),(0:Int),()):=by
  simp [chain,encP,std_ofNat,std_len]
 rw [e0] at key
 have v1:IntKind.i64.wrap (((chain l).length:Int) - 1)=(((chain l).length - 1:Nat):Int):=by rw [wrap64]<;>omega
 have c1:(0:Int)≤(((chain l).length - 1:Nat):Int):=by omega
 have c2:(((chain l).length - 1:Nat):Int)≤((chain l).length:Int):=by omega
 have c3:(((chain l).length - 1:Nat):Int)≤(((chain l).length - 1:Nat):Int):=by omega
 have c4:(0:Int)≥0:=by omega
 unfold G88
 simp only [std_ofNat,std_len] at key
 simp only [g88,it0_eq,std_ofNat,std_len,need_eq,ret_eq,bnd_eq,key,Option.bind_some]
 simp only [stdS,stdL,encP_len,std_ar_sub,v1,c1,c2,c3,c4,Int.toNat_zero,Nat.sub_zero,Nat.add_zero]
end Go.Am
end
section
namespace M06
theorem lag (u v:Pt):dt u u*dt v v=dt u v*dt u v+crs u v*crs u v:=by simp only [dt,crs]; grind
theorem dt_self_nonneg (u:Pt):0≤dt u u:=by have:=sqn u.1; have:=sqn u.2; simp only [dt]; omega
theorem dt_self_pos {u:Pt} (h:u≠(0,0)):0<dt u u:=by
 have a:=sqn u.1
 have b:=sqn u.2
 refine Classical.byContradiction fun hc=>h ?_
 simp only [dt] at hc
 have e1:u.1*u.1=0:=by omega
 have e2:u.2*u.2=0:=by omega
 exact Prod.ext (by rcases Int.mul_eq_zero.1 e1 with h|h<;>exact h) (by rcases Int.mul_eq_zero.1 e2 with h|h<;>exact h)
theorem sb_eq_zero {a b:Pt}:sb a b=(0,0)↔a=b:=by
 simp only [sb,Prod.mk.injEq]
 exact ⟨fun h=>Prod.ext (by omega) (by omega),fun h=>by subst h; omega⟩
structure Face (S:List Pt) (d a b:Pt):Prop where
 ina:a∈S
 inb:b∈S
 par:crs d (sb b a)=0
 left:∀ x∈S,0≤crs d (sb x a)
 on:∀ x∈S,crs d (sb x a)=0→0≤dt d (sb x a)∧0≤dt d (sb b x)
theorem both_zero {d v:Pt} (hd:d≠(0,0)) (h1:crs d v=0) (h2:dt d v=0):v=(0,0):=by
 have:=lag d v
 rw [h1,h2] at this
 have hp:=dt_self_pos hd
 refine Classical.byContradiction fun hv=>?_
 have:=Int.mul_pos hp (dt_self_pos hv)
 omega
theorem Face.sum {A B:List Pt} {T:List Pt} (hT:∀ z,z∈T↔∃ x∈A,∃ y∈B,z=ad x y) {d a b a' b':Pt} (h:Face A d a b) (h':Face B d a' b'):Face T d (ad a a') (ad b b'):=by
 have add1:∀ x y p q:Pt,crs d (sb (ad x y) (ad p q))=crs d (sb x p)+crs d (sb y q):=by intros; simp only [crs,sb,ad]; grind
 have add2:∀ x y p q:Pt,dt d (sb (ad x y) (ad p q))=dt d (sb x p)+dt d (sb y q):=by intros; simp only [dt,sb,ad]; grind
 refine ⟨(hT _).2 ⟨_,h.ina,_,h'.ina,rfl⟩,(hT _).2 ⟨_,h.inb,_,h'.inb,rfl⟩,?_,?_,?_⟩
 ·rw [add1,h.par,h'.par]; rfl
 ·intro z hz
  obtain ⟨x,hx,y,hy,rfl⟩:=(hT z).1 hz
  rw [add1]
  have:=h.left x hx; have:=h'.left y hy; omega
 ·intro z hz hz0
  obtain ⟨x,hx,y,hy,rfl⟩:=(hT z).1 hz
  rw [add1] at hz0
  have l1:=h.left x hx
  have l2:=h'.left y hy
  have o1:=h.on x hx (by omega)
  have o2:=h'.on y hy (by omega)
  rw [add2,add2]; omega
theorem Face.sub {S T:List Pt} {d a b:Pt} (h:Face S d a b) (hs:∀ x∈T,x∈S) (ha:a∈T) (hb:b∈T):Face T d a b:=
 ⟨ha,hb,h.par,fun x hx=>h.left x (hs x hx),fun x hx=>h.on x (hs x hx)⟩
def Same (u v:Pt):Prop:=crs u v=0∧0<dt u v
theorem Same.mul {u v:Pt} (h:Same u v) (w:Pt):dt u u*crs v w=dt u v*crs u w∧dt u u*dt v w=dt u v*dt u w:=by
 have h0:=h.1
 simp only [crs,dt] at*
 constructor<;>grind
theorem Same.ne {u v:Pt} (h:Same u v):u≠(0,0):=by
 rintro rfl; have:=h.2; simp [dt] at this
theorem Same.symm {u v:Pt} (h:Same u v):Same v u:=by
 refine ⟨?_,?_⟩
 ·have:=h.1; simp only [crs] at*; grind
 ·have:=h.2; simp only [dt] at*; rw [Int.mul_comm v.1,Int.mul_comm v.2]; exact this
theorem nonneg_of_mul {a b c d:Int} (ha:0<a) (hc:0<c) (h:a*b=c*d):(0≤b↔0≤d)∧(b=0↔d=0):=by
 have p:∀ {x y z w:Int},0<x→0<z→x*y=z*w→0≤y→0≤w:=by
  intro x y z w hx hz h hy
  refine Classical.byContradiction fun hn=>?_
  have:=Int.mul_nonneg (Int.le_of_lt hx) hy
  have:=Int.mul_neg_of_pos_of_neg hz (Int.not_le.1 hn)
  omega
 have q:∀ {x y z w:Int},0<z→x*y=z*w→y=0→w=0:=by
  intro x y z w hz h hy
  rw [hy,Int.mul_zero] at h
  rcases Int.mul_eq_zero.1 h.symm with h|h
  ·omega
  ·exact h
 exact ⟨⟨p ha hc h,p hc ha h.symm⟩,⟨q hc h,q ha h.symm⟩⟩
theorem Face.same {S:List Pt} {d e a b:Pt} (h:Face S d a b) (hs:Same d e):Face S e a b:=by
 have hd:=dt_self_pos hs.ne
 have k:∀ w,(0≤crs e w↔0≤crs d w)∧(crs e w=0↔crs d w=0):=fun w=>nonneg_of_mul hd hs.2 (hs.mul w).1
 have k2:∀ w,(0≤dt e w↔0≤dt d w)∧(dt e w=0↔dt d w=0):=fun w=>nonneg_of_mul hd hs.2 (hs.mul w).2
 refine ⟨h.ina,h.inb,(k _).2.2 h.par,fun x hx=>(k _).1.2 (h.left x hx),fun x hx h0=>?_⟩
 have:=h.on x hx ((k _).2.1 h0)
 exact ⟨(k2 _).1.2 this.1,(k2 _).1.2 this.2⟩
theorem le_of_sq {a b:Int} (hb:0≤b) (h:a*a≤b*b):a≤b:=by
 refine Classical.byContradiction fun hn=>?_
 have:b<a:=by omega
 have:=Int.mul_lt_mul_of_pos_left this (show 0<a by omega)
 have:=Int.mul_le_mul_of_nonneg_right (show b≤a by omega) hb
 have:=Int.mul_comm a b
 omega
theorem far_iff {a b x:Pt} (hab:a≠b) (h0:cr a b x=0) (h1:0≤dt (sb b a) (sb x a)):far a x≤far a b↔0≤dt (sb b a) (sb b x):=by
 have hne:sb b a≠(0,0):=fun h=>hab (sb_eq_zero.1 h).symm
 have hp:=dt_self_pos hne
 have e1:far a x=dt (sb x a) (sb x a):=by simp only [far,dt,sb]; grind
 have e2:far a b=dt (sb b a) (sb b a):=by simp only [far,dt,sb]; grind
 have e3:dt (sb b a) (sb b x)=dt (sb b a) (sb b a) - dt (sb b a) (sb x a):=by simp only [dt,sb]; grind
 have hl:=lag (sb b a) (sb x a)
 have h0':crs (sb b a) (sb x a)=0:=h0
 rw [h0'] at hl
 rw [e1,e2,e3]
 generalize dt (sb b a) (sb x a)=m at*
 generalize dt (sb b a) (sb b a)=n at*
 generalize dt (sb x a) (sb x a)=k at*
 have hl':n*k=m*m:=by omega
 constructor
 ·intro h
  have:n*k≤n*n:=Int.mul_le_mul_of_nonneg_left h (by omega)
  have:=le_of_sq (a:=m) (b:=n) (by omega) (by omega)
  omega
 ·intro h
  have h2:m*m≤n*n:=Int.mul_le_mul (by omega) (by omega) h1 (by omega)
  refine Classical.byContradiction fun hn=>?_
  have:=Int.mul_lt_mul_of_pos_left (show n<k by omega) hp
  omega
theorem nx_face {S:List Pt} {a b:Pt} (ha:a∈S) (h:Nx S a b):Face S (sb b a) a b:=by
 obtain ⟨h1,h2,h3⟩:=h
 refine ⟨ha,h1,?_,fun x hx=>(h3 x hx).1,fun x hx h0=>?_⟩
 ·simp only [crs,sb]; grind
 ·have:=(h3 x hx).2 h0
  exact ⟨this.1,(far_iff h2 h0 this.1).1 this.2⟩
theorem face_nx {S:List Pt} {d a b:Pt} (hd:d≠(0,0)) (h:Face S d a b) (hab:a≠b):Nx S a b∧Same d (sb b a):=by
 have hpos:0<dt d (sb b a):=by
  have h0:crs d (sb a a)=0:=by simp [crs,sb]
  have:=(h.on a h.ina h0).2
  refine Classical.byContradiction fun hn=>hab ?_
  exact (sb_eq_zero.1 (both_zero hd h.par (by omega))).symm
 have hs:Same d (sb b a):=⟨h.par,hpos⟩
 have hf:=h.same hs
 refine ⟨⟨h.inb,hab,fun x hx=>⟨hf.left x hx,fun h0=>?_⟩⟩,hs⟩
 have:=hf.on x hx h0
 exact ⟨this.1,(far_iff hab h0 this.1).2 this.2⟩
theorem nx_unique {S:List Pt} {a b b':Pt} (h:Nx S a b) (h':Nx S a b'):b=b':=by
 have c1:=h.2.2 b' h'.1
 have c2:=h'.2.2 b h.1
 have z:cr a b b'=0:=by have:=cr_swap a b b'; omega
 have z':cr a b' b=0:=by have:=cr_swap a b b'; omega
 have f1:=(c1.2 z).2
 have f2:=(c2.2 z').2
 have d1:=(far_iff h.2.1 z (c1.2 z).1).1 f1
 have d2:=(far_iff h'.2.1 z' (c2.2 z').1).1 f2
 have hf:dt (sb b' b) (sb b' b)=0:=by
  have e:dt (sb b' b) (sb b' b)= - dt (sb b a) (sb b' b)+dt (sb b' a) (sb b' b):=by simp only [dt,sb]; grind
  have e2:dt (sb b a) (sb b' b)= - dt (sb b a) (sb b b'):=by simp only [dt,sb]; grind
  have hl:0≤dt (sb b' b) (sb b' b):=dt_self_nonneg _
  have e3:dt (sb b a) (sb b' a)*2=far a b+far a b' - dt (sb b' b) (sb b' b):=by simp only [far,dt,sb]; grind
  have e4:dt (sb b a) (sb b b')=far a b - dt (sb b a) (sb b' a):=by simp only [far,dt,sb]; grind
  have e5:dt (sb b' a) (sb b' b)=far a b' - dt (sb b a) (sb b' a):=by simp only [far,dt,sb]; grind
  have hlag:=lag (sb b a) (sb b' a)
  have z0:crs (sb b a) (sb b' a)=0:=z
  have e6:dt (sb b a) (sb b a)=far a b:=by simp only [far,dt,sb]; grind
  have e7:dt (sb b' a) (sb b' a)=far a b':=by simp only [far,dt,sb]; grind
  rw [z0,e6,e7] at hlag
  have hfe:far a b=far a b':=by omega
  have hm:0≤dt (sb b a) (sb b' a):=(c1.2 z).1
  rw [←hfe] at hlag
  have hfn:0≤far a b:=by rw [←e6]; exact dt_self_nonneg _
  have hq:=le_of_sq (a:=far a b) (b:=dt (sb b a) (sb b' a)) hm (by omega)
  omega
 refine Classical.byContradiction fun hne=>?_
 have:=dt_self_pos (u:=sb b' b) (fun h=>hne (sb_eq_zero.1 h).symm)
 omega
theorem le_antisymm {a b:Pt} (h1:Le a b) (h2:Le b a):a=b:=by
 rcases h1 with h|h1
 ·exact h
 ·rcases h2 with h|h2
  ·exact h.symm
  ·exact absurd h2 (fun h=>h1.asymm h)
theorem pth_unique {S:List Pt} {e:Pt}:∀ {l l':List Pt} {a:Pt},Pth S (a::l++[e])→Pth S (a::l'++[e])→e∉l→e∉l'→l=l'
 |[],[],a,_,_,_,_=>rfl
 |[],b::l',a,h,h',_,n'=>by
  have:=nx_unique h.1 h'.1
  exact absurd (by simp [this]) n'
 |b::l,[],a,h,h',n,_=>by
  have:=nx_unique h.1 h'.1
  exact absurd (by simp [this]) n
 |b::l,b'::l',a,h,h',n,n'=>by
  have e1:=nx_unique h.1 h'.1
  subst e1
  have:=pth_unique (l:=l) (l':=l') (a:=b) h.2 h'.2 (fun x=>n (List.mem_cons_of_mem _ x)) (fun x=>n' (List.mem_cons_of_mem _ x))
  rw [this]
theorem cyc_unique {S c c':List Pt} (h:Cyc S c) (h':Cyc S c'):c=c':=by
 match c,c',h,h' with
 |c0::r,c0'::r',h,h'=>
  have e0:c0=c0':=le_antisymm (h.2.1 _ h'.1) (h'.2.1 _ h.1)
  subst e0
  congr 1
  rcases h.2.2 with ⟨hr,hs⟩|⟨hr,hp,hn⟩
  ·rcases h'.2.2 with ⟨hr',_⟩|⟨hr',hp',hn'⟩
   ·rw [hr,hr']
   ·match r',hr',hp',hn' with
    |b::l,_,hp',hn'=>exact absurd (by simp [hs b hp'.1.1]) hn'
  ·rcases h'.2.2 with ⟨hr',hs'⟩|⟨hr',hp',hn'⟩
   ·match r,hr,hp,hn with
    |b::l,_,hp,hn=>exact absurd (by simp [hs' b hp.1.1]) hn
   ·exact pth_unique hp hp' hn hn'
theorem cyc_mem {S c:List Pt} (h:Cyc S c):∀ x∈c,x∈S:=by
 have k:∀ (l:List Pt) (a:Pt),Pth S (a::l)→∀ x∈l,x∈S:=by
  intro l
  induction l with
  |nil=>intro a _ x hx; simp at hx
  |cons b l ih=>
   intro a h x hx
   rcases List.mem_cons.1 hx with rfl|hx
   ·exact h.1.1
   ·exact ih b h.2 x hx
 match c,h with
 |c0::r,h=>
  intro x hx
  rcases List.mem_cons.1 hx with rfl|hx
  ·exact h.1
  ·rcases h.2.2 with ⟨hr,_⟩|⟨_,hp,_⟩
   ·subst hr; simp at hx
   ·exact k (r++[c0]) c0 hp x (by simp [hx])
theorem nx_sub {S T:List Pt} {a b:Pt} (h:Nx S a b) (hs:∀ x∈T,x∈S) (hb:b∈T):Nx T a b:=
 ⟨hb,h.2.1,fun x hx=>h.2.2 x (hs x hx)⟩
theorem cyc_sub {S T c:List Pt} (h:Cyc S c) (hs:∀ x∈T,x∈S) (hc:∀ x∈c,x∈T):Cyc T c:=by
 have k:∀ (l:List Pt) (a:Pt),Pth S (a::l)→(∀ x∈l,x∈T)→Pth T (a::l):=by
  intro l
  induction l with
  |nil=>intro a _ _; trivial
  |cons b l ih=>
   intro a h hx
   exact ⟨nx_sub h.1 hs (hx b (by simp)),ih b h.2 (fun x h=>hx x (List.mem_cons_of_mem _ h))⟩
 match c,h with
 |c0::r,h=>
  refine ⟨hc c0 (by simp),fun x hx=>h.2.1 x (hs x hx),?_⟩
  rcases h.2.2 with ⟨hr,h1⟩|⟨hr,hp,hn⟩
  ·exact .inl ⟨hr,fun x hx=>h1 x (hs x hx)⟩
  ·refine .inr ⟨hr,k (r++[c0]) c0 hp (fun x hx=>?_),hn⟩
   rcases List.mem_append.1 hx with hx|hx
   ·exact hc x (List.mem_cons_of_mem _ hx)
   ·simp at hx; subst hx; exact hc _ (by simp)
theorem cyc_self {S c:List Pt} (h:Cyc S c):Cyc c c:=cyc_sub h (cyc_mem h) (fun _ h=>h)
end M06
end
section
namespace M06
def Bef (u v:Pt):Prop:=(Pos u∧Pos (ng v))∨(Pos u∧Pos v∧0<crs u v)∨(Pos (ng u)∧Pos (ng v)∧0<crs u v)
def ways:List Pt→List Pt
 |a::b::l=>sb b a::ways (b::l)
 |_=>[]
def walk:Pt→List Pt→List Pt
 |p,[]=>[p]
 |p,w::ws=>p::walk (ad p w) ws
def wy:List Pt→List Pt
 |a::b::r=>ways (a::b::r++[a])
 |_=>[]
theorem ad_sb (a b:Pt):ad a (sb b a)=b:=by simp only [ad,sb]; exact Prod.ext (by simp; omega) (by simp; omega)
theorem walk_ways:∀ (l:List Pt) (a:Pt),walk a (ways (a::l))=a::l
 |[],a=>rfl
 |b::l,a=>by
  simp only [ways,walk]
  rw [ad_sb,walk_ways l b]
theorem ways_append:∀ (l r:List Pt) (m:Pt),ways (l++m::r)=ways (l++[m])++ways (m::r)
 |[],r,m=>by simp [ways]
 |[a],r,m=>by simp [ways]
 |a::b::l,r,m=>by
  have:=ways_append (b::l) r m
  simp only [List.cons_append,ways] at this⊢
  rw [this]
theorem pos_sum {u v:Pt} (h1:Pos u) (h2:Pos v):Pos (ad u v):=by simp only [Pos,ad] at*; omega
theorem pos_tri (u:Pt) (h:u≠(0,0)):Pos u∨Pos (ng u):=by
 have:¬ (u.1=0∧u.2=0):=fun e=>h (Prod.ext e.1 e.2)
 simp only [Pos,ng]; omega
theorem pos_asymm {u:Pt} (h1:Pos u) (h2:Pos (ng u)):False:=by simp only [Pos,ng] at*; omega
theorem pos_ne {u:Pt} (h:Pos u):u≠(0,0):=by rintro rfl; simp [Pos] at h
theorem crs_ng (u v:Pt):crs (ng u) (ng v)=crs u v:=by simp only [crs,ng]; grind
theorem crs_ngl (u v:Pt):crs (ng u) v= - crs u v:=by simp only [crs,ng]; grind
theorem crs_ngr (u v:Pt):crs u (ng v)= - crs u v:=by simp only [crs,ng]; grind
theorem crs_comm (u v:Pt):crs v u= - crs u v:=by simp only [crs]; grind
theorem ways_chain:∀ {st:List Pt},Desc st→Conv st→(ways st.reverse).Pairwise (fun u v=>0<crs u v)∧∀ w∈ways st.reverse,Pos w
 |[],_,_=>⟨.nil,by simp [ways]⟩
 |[_],_,_=>⟨.nil,by simp [ways]⟩
 |[t,s],hd,_=>⟨by simp [ways],fun w hw=>by simp [ways] at hw; subst hw; exact hd.1⟩
 |t::s::r::l,hd,hc=>by
  obtain ⟨h1,h2⟩:=ways_chain (st:=s::r::l) hd.2 hc.2
  have e:ways (t::s::r::l).reverse=ways (s::r::l).reverse++[sb t s]:=by
   have:=ways_append (r::l).reverse [t] s
   simp only [List.reverse_cons,List.append_assoc,List.cons_append,List.nil_append] at this⊢
   rw [this]; rfl
  have e2:ways (s::r::l).reverse=ways (r::l).reverse++[sb s r]:=by
   have:=ways_append l.reverse [s] r
   simp only [List.reverse_cons,List.append_assoc,List.cons_append,List.nil_append] at this⊢
   rw [this]; rfl
  have hpt:Pos (sb t s):=hd.1
  have hps:Pos (sb s r):=hd.2.1
  have hcc:0<crs (sb s r) (sb t s):=by rw [cr_fwd]; exact hc.1
  refine ⟨?_,fun w hw=>?_⟩
  ·rw [e,List.pairwise_append]
   refine ⟨h1,by simp,fun u hu v hv=>?_⟩
   simp at hv; subst hv
   rw [e2] at hu
   rcases List.mem_append.1 hu with hu'|hu'
   ·have hu2:0<crs u (sb s r):=by
     rw [e2,List.pairwise_append] at h1
     exact h1.2.2 u hu' _ (by simp)
    exact crs_trans_lt (h2 u (by rw [e2]; exact hu)) hps hpt (by omega) (by omega) (.inl hu2)
   ·simp at hu'; subst hu'; exact hcc
  ·rw [e] at hw
   rcases List.mem_append.1 hw with hw|hw
   ·exact h2 w hw
   ·simp at hw; subst hw; exact hpt
theorem ways_ng:∀ l:List Pt,ways (l.map ng)=(ways l).map ng
 |[]=>rfl
 |[_]=>rfl
 |a::b::l=>by
  have:=ways_ng (b::l)
  simp only [List.map_cons,ways] at this⊢
  rw [this]
  congr 1
  simp only [sb,ng]; exact Prod.ext (by simp; omega) (by simp; omega)
theorem fold_head (p:Pt):∀ (l st:List Pt),(∃ r,(l++[p]).foldl push st=p::r):=by
 intro l st
 rw [List.foldl_append]
 exact ⟨_,rfl⟩
theorem pop_last (p:Pt):∀ (st:List Pt),st≠[]→(pop p st)≠[]∧(pop p st).getLast?=st.getLast?
 |[t],_=>by rw [pop_one]; simp
 |t::s::r,_=>by
  by_cases h:cr s t p≤0
  ·rw [pop_eq1 p h]
   have:=pop_last p (s::r) (by simp)
   refine ⟨this.1,this.2.trans ?_⟩
   simp [List.getLast?_cons_cons]
  ·rw [pop_eq2 p h]; simp
theorem fold_last:∀ (l st:List Pt),st≠[]→(l.foldl push st)≠[]∧(l.foldl push st).getLast?=st.getLast?
 |[],st,h=>⟨h,rfl⟩
 |p::l,st,h=>by
  have h1:=pop_last p st h
  have h2:=fold_last l (push st p) (by simp [push])
  refine ⟨h2.1,h2.2.trans ?_⟩
  show (p::pop p st).getLast?=_
  rw [←h1.2]
  match hq:pop p st,h1.1 with
  |[],h=>exact absurd rfl h
  |a::q,_=>simp [List.getLast?_cons_cons]
def chn (l:List Pt):List Pt:=(l.foldl push []).reverse
theorem chn_spec {q:List Pt} {a z:Pt} {m:List Pt} (hq:q=a::m) (hz:q.getLast?=some z) (hs:q.Pairwise Lt):
  ∃ t,chn q=t++[z]∧(t++[z]).head?=some a∧Chain q (chn q).reverse:=by
 subst hq
 have hc:=chain_fold m [a] [a] (by simp) (chain_one a) (fun x hx y hy=>by simp at hx; subst hx; exact (List.pairwise_cons.1 hs).1 y hy) (List.pairwise_cons.1 hs).2
 have he:(a::m).foldl push []=m.foldl push [a]:=by
  show m.foldl push (push [] a)=_
  have:push [] a=[a]:=by simp [push,pop]
  rw [this]
 have hrev:(chn (a::m)).reverse=m.foldl push [a]:=by rw [chn,List.reverse_reverse,he]
 have hl:=fold_last m [a] (by simp)
 have hh:∃ r,m.foldl push [a]=z::r:=by
  rcases List.eq_nil_or_concat m with rfl|⟨m',x,rfl⟩
  ·simp at hz; subst hz; exact ⟨[],rfl⟩
  ·have:z=x:=by
    have:(a::(m'++[x])).getLast?=some x:=by
     rw [←List.cons_append,List.getLast?_append]; simp
    rw [List.concat_eq_append] at hz
    rw [this] at hz; exact (Option.some.inj hz).symm
   subst this
   rw [List.concat_eq_append]
   exact fold_head z m' [a]
 obtain ⟨r,hr⟩:=hh
 refine ⟨r.reverse,?_,?_,by rw [hrev]; exact hc.1⟩
 ·rw [chn,he,hr,List.reverse_cons]
 ·have h2:=hl.2
  rw [hr] at h2
  rw [←List.reverse_cons,List.head?_reverse,h2]; rfl
theorem chn_ng (l:List Pt):chn (l.map ng)=(chn l).map ng:=by
 rw [chn,chn,show ([]:List Pt)=([]:List Pt).map ng from rfl,fold_ng,List.map_reverse]; rfl
def hull (q:List Pt):List Pt:=if q.length=1 then q else (chn q).dropLast++(chn q.reverse).dropLast
theorem Le.trans {a b c:Pt} (h1:Le a b) (h2:Le b c):Le a c:=by
 rcases h1 with rfl|h1
 ·exact h2
 ·rcases h2 with rfl|h2
  ·exact .inr h1
  ·exact .inr (h1.trans h2)
theorem desc_all:∀ {st:List Pt} {z:Pt},Desc (st++[z])→∀ x∈st,Lt z x
 |[],_,_,x,hx=>by simp at hx
 |[t],z,h,x,hx=>by simp at hx; subst hx; exact h.1
 |t::s::r,z,h,x,hx=>by
  have ih:=desc_all (st:=s::r) (z:=z) h.2
  rcases List.mem_cons.1 hx with rfl|hx
  ·exact (ih s (by simp)).trans h.1
  ·exact ih x hx
theorem desc_all_:∀ {st:List Pt} {z:Pt},Desc (z::st)→∀ x∈st,Lt x z
 |[],_,_,x,hx=>by simp at hx
 |t::r,z,h,x,hx=>by
  rcases List.mem_cons.1 hx with rfl|hx
  ·exact h.1
  ·exact (desc_all_ h.2 x hx).trans h.1
theorem hull_cyc {S q:List Pt} (hne:q≠[]) (hs:q.Pairwise Lt) (hm:∀ x,x∈q↔x∈S):Cyc S (hull q)∧(wy (hull q)).Pairwise Bef:=by
 match q,hne with
 |[a],_=>
  have hS:∀ x∈S,x=a:=fun x hx=>by simpa using (hm x).2 hx
  refine ⟨⟨(hm a).1 (by simp),fun x hx=> .inl (hS x hx).symm, .inl ⟨rfl,hS⟩⟩,?_⟩
  simp [hull,wy]
 |a::b::m,_=>
  clear hne
  have hlen:(a::b::m).length≠1:=by simp
  generalize hq:a::b::m=q at hs hm hlen⊢
  obtain ⟨z,hz⟩:∃ z,q.getLast?=some z:=by subst hq; exact ⟨_,List.getLast?_eq_some_getLast (by simp)⟩
  have hzq:z∈q:=List.mem_of_getLast? hz
  have haz:Lt a z:=by
   subst hq
   rw [List.getLast?_cons_cons] at hz
   exact (List.pairwise_cons.1 hs).1 z (List.mem_of_getLast? hz)
  obtain ⟨t,h1,h2,h3⟩:=chn_spec (a:=a) (m:=b::m) hq.symm hz hs
  have hrz:(q.reverse.map ng).Pairwise Lt:=by
   rw [List.pairwise_map,List.pairwise_reverse]
   exact hs.imp fun h=>(ng_lt _ _).2 h
  obtain ⟨m',hm'⟩:∃ m',q.reverse.map ng=ng z::m':=by
   have:q.reverse.head?=some z:=by rw [List.head?_reverse]; exact hz
   match hqr:q.reverse,this with
   |x::r,h=>cases h; exact ⟨r.map ng,rfl⟩
  have hlast:(q.reverse.map ng).getLast?=some (ng a):=by
   rw [List.getLast?_map,List.getLast?_reverse, ←hq]; rfl
  obtain ⟨u,k1,k2,k3⟩:=chn_spec hm' hlast hrz
  rw [chn_ng] at k1 k3
  obtain ⟨v,hv⟩:∃ v,chn q.reverse=v++[a]∧u=v.map ng:=by
   have:chn q.reverse=(u++[ng a]).map ng:=by
    rw [←k1,List.map_map]
    have:(ng∘ng)=id:=funext ng_ng
    rw [this,List.map_id]
   refine ⟨u.map ng,by rw [this]; simp [ng_ng],?_⟩
   rw [List.map_map,show (ng∘ng)=id from funext ng_ng,List.map_id]
  obtain ⟨hv,hu⟩:=hv
  have hvh:(v++[a]).head?=some z:=by
   rw [hu] at k2
   have:((v++[a]).map ng).head?=some (ng z):=by simpa using k2
   rw [List.head?_map] at this
   cases hh:(v++[a]).head? with
   |none=>rw [hh] at this; cases this
   |some y=>rw [hh] at this; rw [ng_inj (Option.some.inj this)]
  have ht:∃ t',t=a::t':=by
   match t,h2 with
   |[],h2=>exact absurd (Option.some.inj h2).symm haz.ne
   |x::t',h2=>cases h2; exact ⟨t',rfl⟩
  have hv':∃ v',v=z::v':=by
   match v,hvh with
   |[],hvh=>exact absurd (Option.some.inj hvh) haz.ne
   |x::v',hvh=>cases hvh; exact ⟨v',rfl⟩
  obtain ⟨t',rfl⟩:=ht
  obtain ⟨v',rfl⟩:=hv'
  have hh:hull q=a::t'++z::v':=by
   rw [hull,if_neg hlen,h1,hv,List.dropLast_concat,List.dropLast_concat]
  have p1:Pth S (a::t'++[z]):=by
   have:=pth_stack (S:=S) h3.desc (fun x hx=>h3.edge x ((hm x).2 hx)) (fun y hy=>(hm y).1 (h3.sub y hy))
   rwa [List.reverse_reverse,h1] at this
  have p2:Pth S (z::v'++[a]):=by
   have hsub:∀ x,x∈q.reverse.map ng↔x∈S.map ng:=fun x=>by
    simp only [List.mem_map,List.mem_reverse]
    exact ⟨fun ⟨y,h,e⟩=>⟨y,(hm y).1 h,e⟩,fun ⟨y,h,e⟩=>⟨y,(hm y).2 h,e⟩⟩
   have:=pth_stack (S:=S.map ng) k3.desc (fun x hx=>k3.edge x ((hsub x).2 hx)) (fun y hy=>(hsub y).1 (k3.sub y hy))
   rw [List.reverse_reverse,hv] at this
   exact pth_ng this
  have d1:Desc ((a::t'++[z]).reverse):=by have:=h3.desc; rwa [h1] at this
  have d2:Desc (((z::v'++[a]).map ng).reverse):=by have:=k3.desc; rwa [hv] at this
  have c1:Conv ((a::t'++[z]).reverse):=by have:=h3.conv; rwa [h1] at this
  have c2:Conv (((z::v'++[a]).map ng).reverse):=by have:=k3.conv; rwa [hv] at this
  have n1:∀ x∈t',Lt a x:=by
   intro x hx
   rw [List.cons_append,List.reverse_cons] at d1
   exact desc_all d1 x (by simp [hx])
  have n2:∀ x∈v',Lt a x:=by
   intro x hx
   rw [List.map_append,List.reverse_append] at d2
   have:=desc_all_ (st:=((z::v').map ng).reverse) (z:=ng a) d2 (ng x) (List.mem_reverse.2 (List.mem_map.2 ⟨x,by simp [hx],rfl⟩))
   exact (ng_lt _ _).1 this
  refine ⟨?_,?_⟩
  ·rw [hh]
   have haS:∀ x∈S,Le a x:=fun x hx=>by
    have:=(hm x).2 hx
    rw [←hq] at this
    rcases List.mem_cons.1 this with rfl|h
    ·exact .inl rfl
    ·rw [←hq] at hs; exact .inr ((List.pairwise_cons.1 hs).1 x h)
   refine ⟨(hm a).1 (by rw [←hq]; simp),haS, .inr ⟨by simp,?_,?_⟩⟩
   ·have:=pth_join (l:=a::t') (m:=z) (r:=v'++[a]) p1 p2
    simpa using this
   ·intro hx
    rcases List.mem_append.1 hx with h|h
    ·exact (n1 a h).irrefl
    ·rcases List.mem_cons.1 h with h|h
     ·exact haz.ne h
     ·exact (n2 a h).irrefl
  ·rw [hh]
   have hw:wy (a::t'++z::v')=ways (a::t'++[z])++ways (z::v'++[a]):=by
    have:wy (a::t'++z::v')=ways (a::t'++z::(v'++[a])):=by
     cases t' with
     |nil=>simp [wy]
     |cons x t'=>simp [wy]
    rw [this,ways_append]; rfl
   obtain ⟨w1,w2⟩:=ways_chain d1 c1
   rw [List.reverse_reverse] at w1 w2
   obtain ⟨w3,w4⟩:=ways_chain d2 c2
   rw [List.reverse_reverse,ways_ng] at w3 w4
   have w4':∀ w∈ways (z::v'++[a]),Pos (ng w):=fun w hw=>w4 _ (List.mem_map.2 ⟨w,hw,rfl⟩)
   rw [hw,List.pairwise_append]
   refine ⟨?_,?_,fun x hx y hy=> .inl ⟨w2 x hx,w4' y hy⟩⟩
   ·exact w1.imp_of_mem fun {x y} hx hy h=> .inr (.inl ⟨w2 x hx,w2 y hy,h⟩)
   ·rw [List.pairwise_map] at w3
    exact w3.imp_of_mem fun {x y} hx hy h=> .inr (.inr ⟨w4' x hx,w4' y hy,by rwa [crs_ng] at h⟩)
noncomputable def ins (p:Pt):List Pt→List Pt
 |[]=>[p]
 |a::l=>open Classical in if Lt p a then p::a::l else if p=a then a::l else a::ins p l
theorem ins_spec (p:Pt):∀ (l:List Pt),l.Pairwise Lt→(ins p l).Pairwise Lt∧∀ x,x∈ins p l↔x=p∨x∈l
 |[],_=>by simp [ins]
 |a::l,h=>by
  obtain ⟨h1,h2⟩:=ins_spec p l (List.pairwise_cons.1 h).2
  have h0:=(List.pairwise_cons.1 h).1
  rw [ins]
  split
  ·rename_i hp
   refine ⟨List.pairwise_cons.2 ⟨fun y hy=>?_,h⟩,fun x=>by simp⟩
   rcases List.mem_cons.1 hy with rfl|hy
   ·exact hp
   ·exact hp.trans (h0 y hy)
  ·rename_i hp
   split
   ·rename_i he
    subst he
    refine ⟨h,fun x=>?_⟩
    simp
   ·rename_i hne
    have hap:Lt a p:=by
     rcases lt_tri p a with h|h|h
     ·exact absurd h hp
     ·exact absurd h hne
     ·exact h
    refine ⟨List.pairwise_cons.2 ⟨fun y hy=>?_,h1⟩,fun x=>?_⟩
    ·rcases (h2 y).1 hy with rfl|hy
     ·exact hap
     ·exact h0 y hy
    ·simp only [List.mem_cons,h2]
     constructor
     ·rintro (h|h|h)
      ·exact .inr (.inl h)
      ·exact .inl h
      ·exact .inr (.inr h)
     ·rintro (h|h|h)
      ·exact .inr (.inl h)
      ·exact .inl h
      ·exact .inr (.inr h)
theorem sorted_exists:∀ (S:List Pt),∃ q:List Pt,q.Pairwise Lt∧∀ x,x∈q↔x∈S
 |[]=>⟨[], .nil,fun _=>Iff.rfl⟩
 |p::S=>by
  obtain ⟨q,h1,h2⟩:=sorted_exists S
  obtain ⟨h3,h4⟩:=ins_spec p q h1
  exact ⟨ins p q,h3,fun x=>by rw [h4,h2]; simp⟩
theorem cyc_exists {S:List Pt} (hne:S≠[]):∃ c,Cyc S c∧(wy c).Pairwise Bef:=by
 obtain ⟨q,h1,h2⟩:=sorted_exists S
 have:q≠[]:=by
  rintro rfl
  match S,hne with
  |a::S,_=>have:=(h2 a).2 (by simp); simp at this
 exact ⟨_,hull_cyc this h1 h2⟩
theorem cyc_ne {S c:List Pt} (h:Cyc S c):S≠[]:=by
 match c,h with
 |c0::r,h=>intro e; have:=h.1; rw [e] at this; simp at this
theorem cyc_bef {S c:List Pt} (h:Cyc S c):(wy c).Pairwise Bef:=by
 obtain ⟨c',h1,h2⟩:=cyc_exists (cyc_ne h)
 rw [cyc_unique h h1]; exact h2
end M06
end
section
namespace M06
instance (u:Pt):Decidable (Pos u):=by unfold Pos; infer_instance
instance (u v:Pt):Decidable (Bef u v):=by unfold Bef; infer_instance
instance (u v:Pt):Decidable (Same u v):=by unfold Same; infer_instance
def sumL (l:List Pt):Pt:=l.foldr ad (0,0)
def sumB (d:Pt) (l:List Pt):Pt:=sumL (l.filter (fun w=>decide (Bef w d)))
def sumS (d:Pt) (l:List Pt):Pt:=sumL (l.filter (fun w=>decide (Same d w)))
theorem ad_zero (a:Pt):ad a (0,0)=a:=by simp [ad]
theorem zero_ad (a:Pt):ad (0,0) a=a:=by simp [ad]
theorem ad_assoc (a b c:Pt):ad (ad a b) c=ad a (ad b c):=by simp only [ad]; exact Prod.ext (by simp; omega) (by simp; omega)
theorem ad_comm (a b:Pt):ad a b=ad b a:=by simp only [ad]; exact Prod.ext (by simp; omega) (by simp; omega)
theorem sumL_nil:sumL []=(0,0):=rfl
theorem sumL_cons (a:Pt) (l:List Pt):sumL (a::l)=ad a (sumL l):=rfl
theorem sumL_append (a b:List Pt):sumL (a++b)=ad (sumL a) (sumL b):=by
 induction a with
 |nil=>rw [List.nil_append,sumL_nil,zero_ad]
 |cons x a ih=>rw [List.cons_append,sumL_cons,sumL_cons,ih,ad_assoc]
theorem sumL_perm {a b:List Pt} (h:a.Perm b):sumL a=sumL b:=by
 induction h with
 |nil=>rfl
 |cons x _ ih=>rw [sumL_cons,sumL_cons,ih]
 |swap x y l=>rw [sumL_cons,sumL_cons,sumL_cons,sumL_cons, ←ad_assoc, ←ad_assoc,ad_comm x y]
 |trans _ _ h1 h2=>exact h1.trans h2
theorem sumB_append (d:Pt) (a b:List Pt):sumB d (a++b)=ad (sumB d a) (sumB d b):=by rw [sumB,List.filter_append,sumL_append]; rfl
theorem sumS_append (d:Pt) (a b:List Pt):sumS d (a++b)=ad (sumS d a) (sumS d b):=by rw [sumS,List.filter_append,sumL_append]; rfl
theorem sumB_perm (d:Pt) {a b:List Pt} (h:a.Perm b):sumB d a=sumB d b:=sumL_perm (h.filter _)
theorem sumS_perm (d:Pt) {a b:List Pt} (h:a.Perm b):sumS d a=sumS d b:=sumL_perm (h.filter _)
theorem Bef.ne1 {u v:Pt} (h:Bef u v):u≠(0,0):=by
 rcases h with h|h|h
 ·exact pos_ne h.1
 ·exact pos_ne h.1
 ·rintro rfl; exact pos_ne h.1 (by simp [ng])
theorem Bef.ne2 {u v:Pt} (h:Bef u v):v≠(0,0):=by
 rcases h with h|h|h
 ·rintro rfl; exact pos_ne h.2 (by simp [ng])
 ·exact pos_ne h.2.1
 ·rintro rfl; exact pos_ne h.2.1 (by simp [ng])
theorem Bef.trans {u v w:Pt} (h1:Bef u v) (h2:Bef v w):Bef u w:=by
 rcases h1 with ⟨a,b⟩|⟨a,b,c⟩|⟨a,b,c⟩
 ·rcases h2 with ⟨d,e⟩|⟨d,e,f⟩|⟨d,e,f⟩
  ·exact absurd d (fun h=>pos_asymm h b)
  ·exact absurd d (fun h=>pos_asymm h b)
  ·exact .inl ⟨a,e⟩
 ·rcases h2 with ⟨d,e⟩|⟨d,e,f⟩|⟨d,e,f⟩
  ·exact .inl ⟨a,e⟩
  ·exact .inr (.inl ⟨a,e,crs_trans_lt a b e (by omega) (by omega) (.inl c)⟩)
  ·exact absurd b (fun h=>pos_asymm h d)
 ·rcases h2 with ⟨d,e⟩|⟨d,e,f⟩|⟨d,e,f⟩
  ·exact absurd d (fun h=>pos_asymm h b)
  ·exact absurd d (fun h=>pos_asymm h b)
  ·refine .inr (.inr ⟨a,e,?_⟩)
   have:=crs_trans_lt a b e (by rw [crs_ng]; omega) (by rw [crs_ng]; omega) (.inl (by rw [crs_ng]; exact c))
   rwa [crs_ng] at this
theorem Bef.irrefl {u:Pt} (h:Bef u u):False:=by
 rcases h with ⟨a,b⟩|⟨a,b,c⟩|⟨a,b,c⟩
 ·exact pos_asymm a b
 ·simp only [crs] at c; have:=Int.mul_comm u.1 u.2; omega
 ·simp only [crs] at c; have:=Int.mul_comm u.1 u.2; omega
theorem Bef.asymm {u v:Pt} (h1:Bef u v) (h2:Bef v u):False:=(h1.trans h2).irrefl
theorem pos_same {u v:Pt} (h:Same u v) (hu:Pos u):Pos v:=by
 obtain ⟨h1,h2⟩:=h
 obtain ⟨u1,u2⟩:=u; obtain ⟨v1,v2⟩:=v
 simp only [Pos,crs,dt] at*
 rcases hu with hu|⟨hu,hu2⟩
 ·left
  refine Classical.byContradiction fun hn=>?_
  have a:=Int.mul_nonneg (Int.le_of_lt hu) (show 0≤ -v1 by omega)
  rw [Int.mul_neg] at a
  have e:u1*(u2*v2)=u2*u2*v1:=by grind
  have b:u2*u2*v1≤0:=by
   have:=Int.mul_nonneg (sqn u2) (show 0≤ -v1 by omega)
   rw [Int.mul_neg] at this; omega
  have c:0<u2*v2:=by omega
  have:=Int.mul_pos hu c
  omega
 ·right
  subst hu
  have hv1:v1=0:=by
   have:u2*v1=0:=by omega
   rcases Int.mul_eq_zero.1 this with h|h
   ·omega
   ·exact h
  refine ⟨hv1,?_⟩
  refine Classical.byContradiction fun hn=>?_
  have a:=Int.mul_nonneg (Int.le_of_lt hu2) (show 0≤ -v2 by omega)
  rw [Int.mul_neg] at a
  omega
theorem same_ng {u v:Pt} (h:Same u v):Same (ng u) (ng v):=by
 refine ⟨by rw [crs_ng]; exact h.1,?_⟩
 have:=h.2
 simp only [dt,ng,Int.neg_mul_neg] at*; exact this
theorem Same.bef_r {u v w:Pt} (h:Same v w) (hb:Bef u v):Bef u w:=by
 have k:∀ {u v w:Pt},Same v w→0<crs u v→0<crs u w:=by
  intro u v w h h0
  have hm:=(h.mul u).1
  rw [crs_comm u v,crs_comm u w] at hm
  have:=dt_self_pos h.ne
  have:=h.2
  have e:dt v v*crs u w=dt v w*crs u v:=by rw [Int.mul_neg,Int.mul_neg] at hm; omega
  refine Classical.byContradiction fun hn=>?_
  have a:=Int.mul_pos h.2 h0
  have b:=Int.mul_nonneg (Int.le_of_lt (dt_self_pos h.ne)) (show 0≤ - crs u w by omega)
  rw [Int.mul_neg] at b; omega
 rcases hb with ⟨a,b⟩|⟨a,b,c⟩|⟨a,b,c⟩
 ·exact .inl ⟨a,pos_same (same_ng h) b⟩
 ·exact .inr (.inl ⟨a,pos_same h b,k h c⟩)
 ·exact .inr (.inr ⟨a,pos_same (same_ng h) b,k h c⟩)
theorem Same.bef_l {u v w:Pt} (h:Same v w) (hb:Bef v u):Bef w u:=by
 have k:∀ {u v w:Pt},Same v w→0<crs v u→0<crs w u:=by
  intro u v w h h0
  have hm:=(h.mul u).1
  refine Classical.byContradiction fun hn=>?_
  have a:=Int.mul_pos h.2 h0
  have b:=Int.mul_nonneg (Int.le_of_lt (dt_self_pos h.ne)) (show 0≤ - crs w u by omega)
  rw [Int.mul_neg] at b; omega
 rcases hb with ⟨a,b⟩|⟨a,b,c⟩|⟨a,b,c⟩
 ·exact .inl ⟨pos_same h a,b⟩
 ·exact .inr (.inl ⟨pos_same h a,b,k h c⟩)
 ·exact .inr (.inr ⟨pos_same (same_ng h) a,b,k h c⟩)
theorem same_pos {u v:Pt} (hu:Pos u) (hv:Pos v) (h:crs u v=0):Same u v:=by
 refine ⟨h,?_⟩
 obtain ⟨u1,u2⟩:=u; obtain ⟨v1,v2⟩:=v
 simp only [Pos,crs,dt] at*
 rcases hu with hu|⟨hu,hu2⟩
 ·rcases hv with hv|⟨hv,hv2⟩
  ·have a:=Int.mul_pos hu hv
   have e:u1*(u2*v2)=u2*u2*v1:=by grind
   have b:=Int.mul_nonneg (sqn u2) (Int.le_of_lt hv)
   have c:0≤u2*v2:=by
    refine Classical.byContradiction fun hn=>?_
    have:=Int.mul_neg_of_pos_of_neg hu (show u2*v2<0 by omega)
    omega
   omega
  ·subst hv
   have:=Int.mul_pos hu hv2
   omega
 ·subst hu
  rcases hv with hv|⟨hv,hv2⟩
  ·have:=Int.mul_pos hu2 hv
   omega
  ·subst hv
   have:=Int.mul_pos hu2 hv2
   omega
theorem dir_tri {u v:Pt} (hu:u≠(0,0)) (hv:v≠(0,0)):Bef u v∨Same u v∨Bef v u:=by
 rcases pos_tri u hu with pu|pu<;>rcases pos_tri v hv with pv|pv
 ·rcases Int.lt_trichotomy (crs u v) 0 with h|h|h
  ·exact .inr (.inr (.inr (.inl ⟨pv,pu,by rw [crs_comm]; omega⟩)))
  ·exact .inr (.inl (same_pos pu pv h))
  ·exact .inl (.inr (.inl ⟨pu,pv,h⟩))
 ·exact .inl (.inl ⟨pu,pv⟩)
 ·exact .inr (.inr (.inl ⟨pv,pu⟩))
 ·rcases Int.lt_trichotomy (crs u v) 0 with h|h|h
  ·exact .inr (.inr (.inr (.inr ⟨pv,pu,by rw [crs_comm]; omega⟩)))
  ·refine .inr (.inl ?_)
   have:=same_ng (same_pos pu pv (by rw [crs_ng]; exact h))
   rwa [ng_ng,ng_ng] at this
  ·exact .inl (.inr (.inr ⟨pu,pv,h⟩))
theorem Same.not_bef {u v:Pt} (h:Same u v):¬ Bef u v:=fun hb=>(h.symm.bef_r hb).irrefl
theorem Same.not_bef' {u v:Pt} (h:Same u v):¬ Bef v u:=fun hb=>(h.bef_r hb).irrefl
theorem walk_head (p:Pt) (ws:List Pt):∃ r,walk p ws=p::r:=by
 cases ws with
 |nil=>exact ⟨[],rfl⟩
 |cons w ws=>exact ⟨_,rfl⟩
theorem walk_last:∀ (ws:List Pt) (p:Pt),(walk p ws).getLast?=some (ad p (sumL ws))
 |[],p=>by rw [sumL_nil,ad_zero]; rfl
 |w::ws,p=>by
  obtain ⟨r,hr⟩:=walk_head (ad p w) ws
  have:=walk_last ws (ad p w)
  rw [walk,hr,List.getLast?_cons_cons, ←hr,this,sumL_cons,ad_assoc]
theorem pth_walk {S:List Pt}:∀ {E1:List Pt} {e:Pt} {E3:List Pt} {p:Pt},Pth S (walk p (E1++e::E3))→Nx S (ad p (sumL E1)) (ad (ad p (sumL E1)) e)
 |[],e,E3,p,h=>by
  rw [sumL_nil,ad_zero]
  obtain ⟨r,hr⟩:=walk_head (ad p e) E3
  simp only [List.nil_append,walk,hr] at h
  exact h.1
 |w::E1,e,E3,p,h=>by
  rw [sumL_cons, ←ad_assoc]
  simp only [List.cons_append,walk] at h
  exact pth_walk (E1:=E1) h.tail
theorem walk_mm {S:List Pt}:∀ {E:List Pt} {p:Pt},p∈S→Pth S (walk p E)→∀ E1 E3,E=E1++E3→ad p (sumL E1)∈S
 |E,p,hp,h,[],E3,_=>by rw [sumL_nil,ad_zero]; exact hp
 |[],p,hp,h,w::E1,E3,he=>by cases he
 |w'::E,p,hp,h,w::E1,E3,he=>by
  simp only [List.cons_append,List.cons.injEq] at he
  obtain ⟨rfl,he⟩:=he
  rw [sumL_cons, ←ad_assoc]
  simp only [walk] at h
  obtain ⟨r,hr⟩:=walk_head (ad p w') E
  refine walk_mm (E:=E) ?_ h.tail E1 E3 he
  rw [hr] at h
  exact h.1.1
theorem sb_ad (a e:Pt):sb (ad a e) a=e:=by simp only [sb,ad]; exact Prod.ext (by simp; omega) (by simp; omega)
theorem corner_face {S:List Pt} {a b c d:Pt} (h1:Nx S a b) (h2:Nx S b c) (hd1:0<crs (sb b a) d) (hd2:0<crs d (sb c b)):Face S d b b:=by
 have key:∀ x∈S,0≤crs d (sb x b)∧(crs d (sb x b)=0→x=b):=by
  intro x hx
  have p1:0≤crs (sb b a) (sb x b):=by
   have:=(h1.2.2 x hx).1
   have e:cr a b x=crs (sb b a) (sb x b):=by simp only [cr,crs,sb]; grind
   omega
  have p2:0≤crs (sb c b) (sb x b):=(h2.2.2 x hx).1
  have hD:0≤crs (sb b a) (sb c b):=by
   have:=(h1.2.2 c h2.1).1
   have e:cr a b c=crs (sb b a) (sb c b):=by simp only [cr,crs,sb]; grind
   omega
  have p3:crs (sb c b) (sb x b)=0→0≤dt (sb c b) (sb x b):=fun h=>((h2.2.2 x hx).2 h).1
  have hn:sb c b≠(0,0):=fun h=>h2.2.1 (sb_eq_zero.1 h).symm
  generalize sb b a=p at*
  generalize sb c b=n at*
  have hv:sb x b=(0,0)→x=b:=sb_eq_zero.1
  generalize sb x b=v at*
  have id1:crs p n*crs d v=crs d n*crs p v+crs p d*crs n v:=by simp only [crs]; grind
  rcases Int.lt_or_eq_of_le hD with hD|hD
  ·have a1:=Int.mul_nonneg (Int.le_of_lt hd2) p1
   have a2:=Int.mul_nonneg (Int.le_of_lt hd1) p2
   refine ⟨?_,fun h0=>hv ?_⟩
   ·refine Classical.byContradiction fun hc=>?_
    have:=Int.mul_neg_of_pos_of_neg hD (Int.not_le.1 hc)
    omega
   ·rw [h0,Int.mul_zero] at id1
    have z1:crs d n*crs p v=0:=by omega
    have z2:crs p d*crs n v=0:=by omega
    have z1:crs p v=0:=by rcases Int.mul_eq_zero.1 z1 with h|h<;>omega
    have z2:crs n v=0:=by rcases Int.mul_eq_zero.1 z2 with h|h<;>omega
    have e1:crs p n*v.1=n.1*crs p v - p.1*crs n v:=by simp only [crs]; grind
    have e2:crs p n*v.2=n.2*crs p v - p.2*crs n v:=by simp only [crs]; grind
    rw [z1,z2] at e1 e2
    simp only [Int.mul_zero,Int.sub_zero] at e1 e2
    refine Prod.ext ?_ ?_
    ·rcases Int.mul_eq_zero.1 e1 with h|h
     ·omega
     ·exact h
    ·rcases Int.mul_eq_zero.1 e2 with h|h
     ·omega
     ·exact h
  ·have a1:=Int.mul_nonneg (Int.le_of_lt hd2) p1
   have a2:=Int.mul_nonneg (Int.le_of_lt hd1) p2
   rw [←hD,Int.zero_mul] at id1
   have z2:crs p d*crs n v=0:=by omega
   have z2:crs n v=0:=by rcases Int.mul_eq_zero.1 z2 with h|h<;>omega
   have hdt:=p3 z2
   have hnn:=dt_self_pos hn
   have id2:dt n n*crs d v=dt n v*crs d n+crs n v*dt n d:=by simp only [crs,dt]; grind
   rw [z2,Int.zero_mul,Int.add_zero] at id2
   have a3:=Int.mul_nonneg hdt (Int.le_of_lt hd2)
   refine ⟨?_,fun h0=>hv ?_⟩
   ·refine Classical.byContradiction fun hc=>?_
    have:=Int.mul_neg_of_pos_of_neg hnn (Int.not_le.1 hc)
    omega
   ·rw [h0,Int.mul_zero] at id2
    have:dt n v=0:=by rcases Int.mul_eq_zero.1 id2.symm with h|h<;>omega
    exact both_zero hn z2 this
 have hb:b∈S:=h1.1
 refine ⟨hb,hb,by simp [crs,sb],fun x hx=>(key x hx).1,fun x hx h0=>?_⟩
 have:=(key x hx).2 h0
 subst this
 simp [dt,sb]
theorem between_dirs {p n d:Pt} (hpn:0≤crs p n) (h:(Bef p d∧Bef d n)∨(Bef d n∧Pos n∧Pos (ng p))∨(Bef p d∧Pos n∧Pos (ng p))):0<crs p d∧0<crs d n:=by
 have T:=@crs_trans_lt
 rcases h with ⟨h1,h2⟩|⟨h1,h2,h3⟩|⟨h1,h2,h3⟩
 ·rcases h1 with ⟨a,b⟩|⟨a,b,c⟩|⟨a,b,c⟩
  ·rcases h2 with ⟨d',e⟩|⟨d',e,f⟩|⟨d',e,f⟩
   ·exact absurd d' (fun h=>pos_asymm h b)
   ·exact absurd d' (fun h=>pos_asymm h b)
   ·refine ⟨?_,f⟩
    have:=T b e a (by rw [crs_ng]; omega) (by rw [crs_ngl,crs_comm]; omega) (.inl (by rw [crs_ng]; exact f))
    rw [crs_ngl,crs_comm] at this; omega
  ·rcases h2 with ⟨d',e⟩|⟨d',e,f⟩|⟨d',e,f⟩
   ·refine ⟨c,?_⟩
    have:=T e a b (by rw [crs_ngl,crs_comm]; omega) (by omega) (.inr c)
    rw [crs_ngl,crs_comm] at this; omega
   ·exact ⟨c,f⟩
   ·exact absurd b (fun h=>pos_asymm h d')
  ·rcases h2 with ⟨d',e⟩|⟨d',e,f⟩|⟨d',e,f⟩
   ·exact absurd d' (fun h=>pos_asymm h b)
   ·exact absurd d' (fun h=>pos_asymm h b)
   ·exact ⟨c,f⟩
 ·rcases h1 with ⟨a,b⟩|⟨a,b,c⟩|⟨a,b,c⟩
  ·exact absurd h2 (fun h=>pos_asymm h b)
  ·refine ⟨?_,c⟩
   have:=T a h2 h3 (by omega) (by rw [crs_ngr,crs_comm]; omega) (.inl c)
   rw [crs_ngr,crs_comm] at this; omega
  ·exact absurd h2 (fun h=>pos_asymm h b)
 ·rcases h1 with ⟨a,b⟩|⟨a,b,c⟩|⟨a,b,c⟩
  ·exact absurd a (fun h=>pos_asymm h h3)
  ·exact absurd a (fun h=>pos_asymm h h3)
  ·refine ⟨c,?_⟩
   have:=T h2 h3 b (by rw [crs_ngr,crs_comm]; omega) (by rw [crs_ng]; omega) (.inr (by rw [crs_ng]; exact c))
   rw [crs_ngr,crs_comm] at this; omega
theorem filter_all {l:List Pt} {P:Pt→Bool} (h:∀ x∈l,P x=true):l.filter P=l:=List.filter_eq_self.2 h
theorem filter_none {l:List Pt} {P:Pt→Bool} (h:∀ x∈l,P x=false):l.filter P=[]:=List.filter_eq_nil_iff.2 (fun x hx=>by rw [h x hx]; simp)
theorem split_bef (d:Pt):∀ (E:List Pt),E.Pairwise Bef→∃ E1 E2,E=E1++E2∧(∀ x∈E1,Bef x d)∧(∀ x∈E2,¬ Bef x d)
 |[],_=>⟨[],[],rfl,by simp,by simp⟩
 |e::E,h=>by
  by_cases he:Bef e d
  ·obtain ⟨E1,E2,h1,h2,h3⟩:=split_bef d E (List.pairwise_cons.1 h).2
   refine ⟨e::E1,E2,by rw [h1]; rfl,fun x hx=>?_,h3⟩
   rcases List.mem_cons.1 hx with rfl|hx
   ·exact he
   ·exact h2 x hx
  ·refine ⟨[],e::E,rfl,by simp,fun x hx hb=>?_⟩
   rcases List.mem_cons.1 hx with rfl|hx
   ·exact he hb
   ·exact he (((List.pairwise_cons.1 h).1 x hx).trans hb)
theorem ways_ne {S:List Pt}:∀ {l:List Pt},Pth S l→∀ w∈ways l,w≠(0,0)
 |[],_,w,hw=>by simp [ways] at hw
 |[_],_,w,hw=>by simp [ways] at hw
 |a::b::l,h,w,hw=>by
  rcases List.mem_cons.1 hw with rfl|hw
  ·exact fun e=>h.1.2.1 (sb_eq_zero.1 e).symm
  ·exact ways_ne (l:=b::l) h.2 w hw
theorem cyc_walk {S:List Pt} {a b:Pt} {r:List Pt} (h:Cyc S (a::b::r)):
  Pth S (walk a (wy (a::b::r)))∧sumL (wy (a::b::r))=(0,0)∧(∀ w∈wy (a::b::r),w≠(0,0))∧wy (a::b::r)≠[]:=by
 have hp:Pth S (a::b::r++[a]):=by
  rcases h.2.2 with ⟨h,_⟩|⟨_,h,_⟩
  ·cases h
  ·exact h
 have hw:walk a (wy (a::b::r))=a::b::r++[a]:=walk_ways (b::r++[a]) a
 refine ⟨by rw [hw]; exact hp,?_,ways_ne hp,by simp [wy,ways]⟩
 have:=walk_last (wy (a::b::r)) a
 rw [hw] at this
 have h2:(a::b::r++[a]).getLast?=some a:=by rw [List.getLast?_append]; simp
 rw [h2] at this
 have:=Option.some.inj this
 simp only [ad] at this
 have e1:=congrArg Prod.fst this
 have e2:=congrArg Prod.snd this
 simp only at e1 e2
 exact Prod.ext (by simp; omega) (by simp; omega)
def hd0 (c:List Pt):Pt:=c.headD (0,0)
theorem cyc_dir {S:List Pt} {a b:Pt} {r:List Pt} (h:Cyc S (a::b::r)) {d:Pt} (hd:d≠(0,0)):
  ∃ α,α∈S∧α=ad a (sumB d (wy (a::b::r)))∧((∃ β,Nx S α β∧Same d (sb β α)∧ad α (sumS d (wy (a::b::r)))=β)∨
   (sumS d (wy (a::b::r))=(0,0)∧∃ q β,q∈S∧Nx S q α∧Nx S α β∧0<crs (sb α q) d∧0<crs d (sb β α))):=by
  obtain ⟨hp,hsum,hnz,hne⟩:=cyc_walk h
  have hs:=cyc_bef h
  have hc0:∀ x∈S,Le a x:=h.2.1
  have haS:a∈S:=h.1
  generalize wy (a::b::r)=E at*
  obtain ⟨E1,E2,rfl,hb1,hb2⟩:=split_bef d E hs
  have hB:sumB d (E1++E2)=sumL E1:=by
   rw [sumB_append,sumB,sumB,filter_all (fun x hx=>by simpa using hb1 x hx),filter_none (fun x hx=>by simpa using hb2 x hx),sumL_nil,ad_zero]
  have hS1:sumS d E1=(0,0):=by
   rw [sumS,filter_none (fun x hx=>?_)]; · rfl
   have:=hb1 x hx
   simp only [decide_eq_false_iff_not]
   exact fun hs=>hs.not_bef' this
  have hin:=walk_mm haS hp E1 E2 rfl
  rw [hB,sumS_append,hS1,zero_ad]
  refine ⟨_,hin,rfl,?_⟩
  by_cases hsame:∃ e E3,E2=e::E3∧Same d e
  ·obtain ⟨e,E3,rfl,he⟩:=hsame
   have hS2:sumS d (e::E3)=e:=by
    have h3:∀ x∈E3,Bef e x:=by
     rw [List.pairwise_append] at hs
     exact (List.pairwise_cons.1 hs.2.1).1
    rw [sumS,List.filter_cons_of_pos (by simpa using he),filter_none (fun x hx=>?_),sumL_cons,sumL_nil,ad_zero]
    simp only [decide_eq_false_iff_not]
    exact fun hs=>hs.not_bef (he.symm.bef_l (h3 x hx))
   have hnx:=pth_walk hp
   exact .inl ⟨_,hnx,by rw [sb_ad]; exact he,by rw [hS2]⟩
  ·have hE2:∀ x∈E2,Bef d x:=by
    intro x hx
    have hxn:x≠(0,0):=hnz x (List.mem_append_right _ hx)
    rcases dir_tri hd hxn with h|h|h
    ·exact h
    ·
     match E2,hsame,hx,hb2 with
     |e::E3,hsame,hx,hb2=>
      rcases List.mem_cons.1 hx with rfl|hx
      ·exact absurd ⟨_,_,rfl,h⟩ hsame
      ·rw [List.pairwise_append] at hs
       have:=(List.pairwise_cons.1 hs.2.1).1 x hx
       exact absurd (h.symm.bef_r this) (hb2 e (by simp))
    ·exact absurd h (hb2 x hx)
   have hS2:sumS d E2=(0,0):=by
    rw [sumS,filter_none (fun x hx=>?_)]; · rfl
    simp only [decide_eq_false_iff_not]
    exact fun hs=>hs.not_bef (hE2 x hx)
   refine .inr ⟨hS2,?_⟩
   have hprev:∃ p q,q∈S∧Nx S q (ad a (sumL E1))∧sb (ad a (sumL E1)) q=p∧((E1≠[]∧Bef p d)∨(E1=[]∧Pos (ng p))):=by
    rcases List.eq_nil_or_concat E1 with rfl|⟨E',p,rfl⟩
    ·rcases List.eq_nil_or_concat E2 with rfl|⟨E',p,rfl⟩
     ·exact absurd rfl hne
     ·rw [List.concat_eq_append,List.nil_append] at hp hsum
      have hnx:=pth_walk (E1:=E') (e:=p) (E3:=[]) hp
      have e0:ad (ad a (sumL E')) p=a:=by
       rw [sumL_append,sumL_cons,sumL_nil,ad_zero] at hsum
       rw [ad_assoc,hsum,ad_zero]
      rw [e0] at hnx
      refine ⟨p,_,walk_mm haS hp E' [p] rfl,by rw [sumL_nil,ad_zero]; exact hnx,?_, .inr ⟨rfl,?_⟩⟩
      ·have:=sb_ad (ad a (sumL E')) p
       rw [e0] at this
       rw [sumL_nil,ad_zero]; exact this
      ·have hq:ad a (sumL E')∈S:=walk_mm haS hp E' [p] rfl
       have hle:=hc0 _ hq
       have e1:=congrArg Prod.fst e0
       have e2:=congrArg Prod.snd e0
       have hp0:p≠(0,0):=hnz p (by simp)
       have hp1:¬ (p.1=0∧p.2=0):=fun e=>hp0 (Prod.ext e.1 e.2)
       rcases hle with hle|hle
       ·have e3:=congrArg Prod.fst hle
        have e4:=congrArg Prod.snd hle
        simp only [ad] at e1 e2 e3 e4
        exact absurd ⟨by omega,by omega⟩ hp1
       ·simp only [ad,Lt,Pos,sb,ng] at*
        omega
    ·rw [List.concat_eq_append] at*
     have hp':Pth S (walk a (E'++p::E2)):=by simpa using hp
     have hnx:=pth_walk hp'
     have e0:ad a (sumL (E'++[p]))=ad (ad a (sumL E')) p:=by rw [sumL_append,sumL_cons,sumL_nil,ad_zero,ad_assoc]
     rw [e0]
     exact ⟨p,_,walk_mm haS hp' E' (p::E2) rfl,hnx,sb_ad _ _, .inl ⟨by simp,hb1 p (by simp)⟩⟩
   have hnext:∃ n q,Nx S (ad a (sumL E1)) q∧sb q (ad a (sumL E1))=n∧((E2≠[]∧Bef d n∧(E1=[]→Pos n))∨(E2=[]∧Pos n)):=by
    match E2,hE2 with
    |[],hE2=>
     match E1,hne with
     |n::E1,hne=>
      rw [List.append_nil] at hp hsum
      have hnx:=pth_walk (E1:=[]) (e:=n) (E3:=E1) hp
      rw [sumL_nil,ad_zero] at hnx
      rw [hsum,ad_zero]
      refine ⟨n,_,hnx,sb_ad _ _, .inr ⟨rfl,?_⟩⟩
      rcases hc0 _ hnx.1 with h|h
      ·exact absurd h hnx.2.1
      ·have h':Pos (sb (ad a n) a):=h
       rwa [sb_ad] at h'
    |n::E3,hE2=>
     have hnx:=pth_walk hp
     refine ⟨n,_,hnx,sb_ad _ _, .inl ⟨by simp,hE2 n (by simp),fun e=>?_⟩⟩
     subst e
     rw [sumL_nil,ad_zero] at hnx
     rcases hc0 _ hnx.1 with h|h
     ·exact absurd h hnx.2.1
     ·have h':Pos (sb (ad a n) a):=h
      rwa [sb_ad] at h'
   obtain ⟨p,q,hqS,n1,rfl,p2⟩:=hprev
   obtain ⟨n,q',n2,rfl,p3⟩:=hnext
   have hpn:0≤crs (sb (ad a (sumL E1)) q) (sb q' (ad a (sumL E1))):=by
    have:=(n1.2.2 q' n2.1).1
    have e:cr q (ad a (sumL E1)) q'=crs (sb (ad a (sumL E1)) q) (sb q' (ad a (sumL E1))):=by simp only [cr,crs,sb]; grind
    omega
   have:=between_dirs hpn (d:=d) (by
    rcases p2 with ⟨a1,a2⟩|⟨a1,a2⟩
    ·rcases p3 with ⟨b1,b2,b3⟩|⟨b1,b2⟩
     ·exact .inl ⟨a2,b2⟩
     ·refine .inr (.inr ⟨a2,b2,?_⟩)
      subst b1
      rw [List.append_nil] at hsum hnz
      rcases pos_tri (sb (ad a (sumL E1)) q) a2.ne1 with hpp|hpp
      ·exfalso
       rw [hsum,ad_zero] at hpp n1
       rcases hc0 q hqS with h|h
       ·exact n1.2.1 h.symm
       ·exact h.asymm hpp
      ·exact hpp
    ·rcases p3 with ⟨b1,b2,b3⟩|⟨b1,b2⟩
     ·exact .inr (.inl ⟨b2,b3 a1,a2⟩)
     ·exact absurd (show E1++E2=[] by rw [a1,b1]; rfl) hne)
   exact ⟨_,_,hqS,n1,n2,this.1,this.2⟩
theorem cyc_face {S c:List Pt} (h:Cyc S c) {d:Pt} (hd:d≠(0,0)):Face S d (ad (hd0 c) (sumB d (wy c))) (ad (ad (hd0 c) (sumB d (wy c))) (sumS d (wy c))):=by
 match c,h with
 |[a],h=>
  have hS:∀ x∈S,x=a:=by
   rcases h.2.2 with ⟨_,h⟩|⟨h,_⟩
   ·exact h
   ·exact absurd rfl h
  show Face S d (ad a (0,0)) (ad (ad a (0,0)) (0,0))
  rw [ad_zero,ad_zero]
  refine ⟨h.1,h.1,by simp [crs,sb],fun x hx=>?_,fun x hx _=>?_⟩
  ·rw [hS x hx]; simp [crs,sb]
  ·rw [hS x hx]; simp [dt,sb]
 |a::b::r,h=>
  obtain ⟨α,h1,h2,h3⟩:=cyc_dir h hd
  show Face S d (ad a (sumB d (wy (a::b::r)))) (ad (ad a (sumB d (wy (a::b::r)))) (sumS d (wy (a::b::r))))
  rw [←h2]
  rcases h3 with ⟨β,k1,k2,k3⟩|⟨k1,q,β,k2,k3,k4,k5,k6⟩
  ·rw [k3]; exact (nx_face h1 k1).same k2.symm
  ·rw [k1,ad_zero]; exact corner_face k3 k4 k5 k6
end M06
end
section
namespace M06
def grp:Pt→List Pt→List Pt
 |_,[]=>[]
 |now,[w]=>[ad now w]
 |now,w::w'::ws=>if Same w w' then grp (ad now w) (w'::ws) else ad now w::grp (ad now w) (w'::ws)
def mink (s0:Pt) (ws:List Pt):List Pt:=if 1<(s0::grp s0 ws).length then (s0::grp s0 ws).dropLast else s0::grp s0 ws
theorem grp_ne:∀ (now w:Pt) (ws:List Pt),grp now (w::ws)≠[]
 |now,w,[]=>by simp [grp]
 |now,w,w'::ws=>by
  rw [grp]; split
  ·exact grp_ne _ _ _
  ·simp
theorem bef_le {a b c:Pt} (h:Bef a b) (hc:c≠(0,0)) (h2:¬ Bef c b):Bef a c:=by
 rcases dir_tri h.ne2 hc with k|k|k
 ·exact h.trans k
 ·exact k.bef_r h
 ·exact absurd k h2
theorem le_bef {a b c:Pt} (ha:a≠(0,0)) (h2:¬ Bef b a) (h:Bef b c):Bef a c:=by
 rcases dir_tri h.ne1 ha with k|k|k
 ·exact absurd k h2
 ·exact k.bef_l h
 ·exact k.trans h
theorem sum_split {d:Pt}:∀ {l:List Pt},(∀ u∈l,Bef u d∨Same d u)→sumL l=ad (sumB d l) (sumS d l)
 |[],_=>rfl
 |u::l,h=>by
  have ih:=sum_split (l:=l) (fun x hx=>h x (List.mem_cons_of_mem _ hx))
  rcases h u (by simp) with hb|hs
  ·rw [sumB,sumS,List.filter_cons_of_pos (by simpa using hb),List.filter_cons_of_neg (by simpa using fun hs:Same d u=>hs.not_bef' hb),sumL_cons,sumL_cons,ih,ad_assoc]
   rfl
  ·rw [sumB,sumS,List.filter_cons_of_neg (by simpa using hs.not_bef'),List.filter_cons_of_pos (by simpa using hs),sumL_cons,sumL_cons,ih]
   show ad u (ad (sumB d l) (sumS d l))=ad (sumB d l) (ad u (sumS d l))
   rw [←ad_assoc, ←ad_assoc,ad_comm u]
theorem sumB_none {d:Pt} {l:List Pt} (h:∀ x∈l,¬ Bef x d):sumB d l=(0,0):=by
 rw [sumB,filter_none (fun x hx=>by simpa using h x hx)]; rfl
theorem sumS_none {d:Pt} {l:List Pt} (h:∀ x∈l,¬ Same d x):sumS d l=(0,0):=by
 rw [sumS,filter_none (fun x hx=>by simpa using h x hx)]; rfl
theorem sumB_all {d:Pt} {l:List Pt} (h:∀ x∈l,Bef x d):sumB d l=sumL l:=by
 rw [sumB,filter_all (fun x hx=>by simpa using h x hx)]
theorem pos_sumL:∀ {l:List Pt},l≠[]→(∀ x∈l,Pos x)→Pos (sumL l)
 |[x],_,h=>by rw [sumL_cons,sumL_nil,ad_zero]; exact h x (by simp)
 |x::y::l,_,h=>by
  rw [sumL_cons]
  exact pos_sum (h x (by simp)) (pos_sumL (l:=y::l) (by simp) (fun z hz=>h z (List.mem_cons_of_mem _ hz)))
theorem sumL_ng:∀ (l:List Pt),sumL (l.map ng)=ng (sumL l)
 |[]=>by simp [sumL,ng]
 |x::l=>by
  rw [List.map_cons,sumL_cons,sumL_cons,sumL_ng l]
  simp only [ad,ng]; exact Prod.ext (by simp; omega) (by simp; omega)
theorem grp_path {T ws:List Pt} {s0:Pt} (hnz:∀ w∈ws,w≠(0,0)) (hs:ws.Pairwise (fun u v=>¬ Bef v u))
  (hf:∀ d,d≠(0,0)→Face T d (ad s0 (sumB d ws)) (ad (ad s0 (sumB d ws)) (sumS d ws))):
  ∀ (ws2 ws1:List Pt) (w cur:Pt),ws=ws1++w::ws2→cur=ad s0 (sumB w ws)→
   Pth T (cur::grp (ad s0 (sumL ws1)) (w::ws2))∧(grp (ad s0 (sumL ws1)) (w::ws2)).getLast?=some (ad s0 (sumL ws))∧
   ∀ x∈(grp (ad s0 (sumL ws1)) (w::ws2)).dropLast,∃ l1 l2,ws=l1++l2∧l1≠[]∧l2≠[]∧x=ad s0 (sumL l1)∧∀ u∈l1,∀ v∈l2,Bef u v:=by
 have step:∀ (l1 l2:List Pt) (w:Pt),ws=l1++l2→w∈l1→(∀ u∈l1,¬ Bef w u)→(∀ v∈l2,Bef w v)→Nx T (ad s0 (sumB w ws)) (ad s0 (sumL l1)):=by
  intro l1 l2 w he hw h1 h2
  have hw0:w≠(0,0):=hnz w (by rw [he]; exact List.mem_append_left _ hw)
  have e1:sumB w ws=sumB w l1:=by
   rw [he,sumB_append,sumB_none (l:=l2) (fun x hx hb=>(h2 x hx).asymm hb),ad_zero]
  have e2:sumS w ws=sumS w l1:=by
   rw [he,sumS_append,sumS_none (l:=l2) (fun x hx hs=>hs.not_bef (h2 x hx)),ad_zero]
  have e3:sumL l1=ad (sumB w ws) (sumS w ws):=by
   rw [e1,e2]
   refine sum_split fun u hu=>?_
   have hu0:u≠(0,0):=hnz u (by rw [he]; exact List.mem_append_left _ hu)
   rcases dir_tri hw0 hu0 with k|k|k
   ·exact absurd k (h1 u hu)
   ·exact .inr k
   ·exact .inl k
  have hF:=hf w hw0
  rw [ad_assoc, ←e3] at hF
  refine (face_nx hw0 hF fun hab=>?_).1
  have hz:sumS w ws=(0,0):=by
   rw [e3, ←ad_assoc] at hab
   have a1:=congrArg Prod.fst hab
   have a2:=congrArg Prod.snd hab
   simp only [ad] at a1 a2
   exact Prod.ext (by simp; omega) (by simp; omega)
  have hfil:(ws.filter (fun x=>decide (Same w x)))≠[]:=by
   intro hn
   have hww:w∈ws:=by rw [he]; exact List.mem_append_left _ hw
   have:=List.filter_eq_nil_iff.1 hn w hww
   simp only [decide_eq_true_eq] at this
   refine this ⟨by simp only [crs]; have:=Int.mul_comm w.1 w.2; omega,?_⟩
   exact dt_self_pos hw0
  rcases pos_tri w hw0 with hp|hp
  ·have:=pos_sumL hfil (fun x hx=>pos_same (by simpa using (List.mem_filter.1 hx).2) hp)
   exact pos_ne this hz
  ·have:=pos_sumL (l:=(ws.filter (fun x=>decide (Same w x))).map ng) (by simpa using hfil) (fun x hx=>by
    obtain ⟨y,hy,rfl⟩:=List.mem_map.1 hx
    have hsy:Same w y:=by simpa using (List.mem_filter.1 hy).2
    exact pos_same (same_ng hsy) hp)
   rw [sumL_ng] at this
   refine pos_ne this ?_
   show ng (sumS w ws)=_
   rw [hz]; rfl
 intro ws2
 induction ws2 with
 |nil=>
  intro ws1 w cur he hcur
  have hle:∀ u∈ws1++[w],¬ Bef w u:=by
   intro u hu hb
   rcases List.mem_append.1 hu with h|h
   ·rw [he,List.pairwise_append] at hs
    exact hs.2.2 u h w (by simp) hb
   ·simp at h; subst h; exact hb.irrefl
  have hn:=step (ws1++[w]) [] w (by rw [he]; simp) (by simp) hle (by simp)
  have e:ad (ad s0 (sumL ws1)) w=ad s0 (sumL (ws1++[w])):=by rw [sumL_append,sumL_cons,sumL_nil,ad_zero,ad_assoc]
  refine ⟨⟨?_,trivial⟩,?_,by simp [grp]⟩
  ·rw [hcur,e]; exact hn
  ·simp only [grp,List.getLast?_singleton]
   rw [e,he]
 |cons w' ws2 ih=>
  intro ws1 w cur he hcur
  have he':ws=(ws1++[w])++w'::ws2:=by rw [he]; simp
  have e:ad (ad s0 (sumL ws1)) w=ad s0 (sumL (ws1++[w])):=by rw [sumL_append,sumL_cons,sumL_nil,ad_zero,ad_assoc]
  have hw0:w≠(0,0):=hnz w (by rw [he]; simp)
  have hw0':w'≠(0,0):=hnz w' (by rw [he]; simp)
  by_cases hsame:Same w w'
  ·rw [grp,if_pos hsame,e]
   refine ih (ws1++[w]) w' cur he' ?_
   rw [hcur]
   congr 1
   rw [sumB,sumB]
   congr 1
   refine List.filter_congr fun x _=>?_
   rw [decide_eq_decide]
   exact ⟨fun h=>hsame.bef_r h,fun h=>hsame.symm.bef_r h⟩
  ·rw [grp,if_neg hsame,e]
   have hww:Bef w w':=by
    rcases dir_tri hw0 hw0' with k|k|k
    ·exact k
    ·exact absurd k hsame
    ·rw [he',List.pairwise_append] at hs
     exact absurd k (hs.2.2 w (by simp) w' (by simp))
   have hle:∀ u∈ws1++[w],¬ Bef w u:=by
    intro u hu hb
    rcases List.mem_append.1 hu with h|h
    ·rw [he,List.pairwise_append] at hs
     exact hs.2.2 u h w (by simp) hb
    ·simp at h; subst h; exact hb.irrefl
   have hge:∀ v∈w'::ws2,¬ Bef v w':=by
    intro v hv hb
    rcases List.mem_cons.1 hv with h|h
    ·subst h; exact hb.irrefl
    ·rw [he',List.pairwise_append] at hs
     exact (List.pairwise_cons.1 hs.2.1).1 v h hb
   have hall:∀ u∈ws1++[w],∀ v∈w'::ws2,Bef u v:=by
    intro u hu v hv
    have h1:Bef w v:=bef_le hww (hnz v (by rw [he']; exact List.mem_append_right _ hv)) (hge v hv)
    exact le_bef (hnz u (by rw [he']; exact List.mem_append_left _ hu)) (hle u hu) h1
   have hn:=step (ws1++[w]) (w'::ws2) w he' (by simp) hle (fun v hv=>hall w (by simp) v hv)
   have hcur':ad s0 (sumL (ws1++[w]))=ad s0 (sumB w' ws):=by
    congr 1
    rw [he',sumB_append,sumB_none (l:=w'::ws2) hge,ad_zero,sumB_all (fun u hu=>hall u hu w' (by simp))]
   obtain ⟨i1,i2,i3⟩:=ih (ws1++[w]) w' _ he' hcur'
   refine ⟨⟨by rw [hcur]; exact hn,i1⟩,?_,?_⟩
   ·obtain ⟨a,r,hg⟩:∃ a r,grp (ad s0 (sumL (ws1++[w]))) (w'::ws2)=a::r:=by
     match hq:grp (ad s0 (sumL (ws1++[w]))) (w'::ws2) with
     |[]=>exact absurd hq (grp_ne _ _ _)
     |a::r=>exact ⟨a,r,rfl⟩
    rw [hg] at i2⊢
    rw [List.getLast?_cons_cons]; exact i2
   ·intro x hx
    obtain ⟨a,r,hg⟩:∃ a r,grp (ad s0 (sumL (ws1++[w]))) (w'::ws2)=a::r:=by
     match hq:grp (ad s0 (sumL (ws1++[w]))) (w'::ws2) with
     |[]=>exact absurd hq (grp_ne _ _ _)
     |a::r=>exact ⟨a,r,rfl⟩
    rw [hg] at hx i3
    rw [List.dropLast_cons_cons] at hx
    rcases List.mem_cons.1 hx with rfl|hx
    ·exact ⟨ws1++[w],w'::ws2,he',by simp,by simp,rfl,hall⟩
    ·exact i3 x hx
theorem mink_cyc {A B T a b ws:List Pt} (hA:Cyc A a) (hB:Cyc B b) (hT:∀ z,z∈T↔∃ x∈A,∃ y∈B,z=ad x y) (hp:ws.Perm (wy a++wy b)) (hs:ws.Pairwise (fun u v=>¬ Bef v u)):
  Cyc T (mink (ad (hd0 a) (hd0 b)) ws):=by
 have hf:∀ d,d≠(0,0)→Face T d (ad (ad (hd0 a) (hd0 b)) (sumB d ws)) (ad (ad (ad (hd0 a) (hd0 b)) (sumB d ws)) (sumS d ws)):=by
  intro d hd
  have:=(cyc_face hA hd).sum hT (cyc_face hB hd)
  rw [sumB_perm d hp,sumS_perm d hp,sumB_append,sumS_append]
  have sw:∀ x y z w:Pt,ad (ad x y) (ad z w)=ad (ad x z) (ad y w):=by
   intros; simp only [ad]; exact Prod.ext (by simp; omega) (by simp; omega)
  rw [sw (hd0 a) (hd0 b) (sumB d (wy a)) (sumB d (wy b)),sw (ad (hd0 a) (sumB d (wy a))) (ad (hd0 b) (sumB d (wy b))) (sumS d (wy a)) (sumS d (wy b))]
  exact this
 have wprop:∀ {S c:List Pt},Cyc S c→sumL (wy c)=(0,0)∧(∀ w∈wy c,w≠(0,0))∧hd0 c∈S∧∀ x∈S,Le (hd0 c) x:=by
  intro S c h
  match c,h with
  |[x],h=>exact ⟨rfl,by simp [wy],h.1,h.2.1⟩
  |x::y::r,h=>
   have:=cyc_walk h
   exact ⟨this.2.1,this.2.2.1,h.1,h.2.1⟩
 obtain ⟨a1,a2,a3,a4⟩:=wprop hA
 obtain ⟨b1,b2,b3,b4⟩:=wprop hB
 have hnz:∀ w∈ws,w≠(0,0):=fun w hw=>by
  rcases List.mem_append.1 (hp.mem_iff.1 hw) with h|h
  ·exact a2 w h
  ·exact b2 w h
 have hsum:sumL ws=(0,0):=by rw [sumL_perm hp,sumL_append,a1,b1]; rfl
 generalize hs0:ad (hd0 a) (hd0 b)=s0 at*
 have hin:s0∈T:=(hT _).2 ⟨_,a3,_,b3,hs0.symm⟩
 have hle:∀ x∈T,Le s0 x:=by
  intro z hz
  obtain ⟨x,hx,y,hy,rfl⟩:=(hT z).1 hz
  have h1:=a4 x hx
  have h2:=b4 y hy
  rw [←hs0]
  generalize hd0 a=p at*
  generalize hd0 b=q at*
  rcases h1 with rfl|h1
  ·rcases h2 with rfl|h2
   ·exact .inl rfl
   ·right; simp only [Lt,Pos,sb,ad] at*; omega
  ·rcases h2 with rfl|h2
   ·right; simp only [Lt,Pos,sb,ad] at*; omega
   ·right; simp only [Lt,Pos,sb,ad] at*; omega
 match ws,hp,hs,hf,hnz,hsum with
 |[],hp,hs,hf,hnz,hsum=>
  have:mink s0 []=[s0]:=by simp [mink,grp]
  rw [this]
  refine ⟨hin,hle, .inl ⟨rfl,fun x hx=>?_⟩⟩
  have f1:=(hf (1,0) (by simp)).left x hx
  have f2:=(hf (-1,0) (by simp)).left x hx
  have f3:=(hf (0,1) (by simp)).left x hx
  have f4:=(hf (0, -1) (by simp)).left x hx
  simp only [sumB,sumL,List.filter_nil,List.foldr_nil,ad_zero,crs,sb] at f1 f2 f3 f4
  exact Prod.ext (by omega) (by omega)
 |w::ws,hp,hs,hf,hnz,hsum=>
  have hcur:s0=ad s0 (sumB w (w::ws)):=by
   rw [sumB_none (fun x hx hb=>?_),ad_zero]
   rcases List.mem_cons.1 hx with h|h
   ·subst h; exact hb.irrefl
   ·exact (List.pairwise_cons.1 hs).1 x h hb
  obtain ⟨p1,p2,p3⟩:=grp_path hnz hs hf ws [] w s0 rfl hcur
  rw [sumL_nil,ad_zero] at p1 p2 p3
  rw [hsum,ad_zero] at p2
  obtain ⟨r,hr⟩:∃ r,grp s0 (w::ws)=r++[s0]:=by
   have hne:=grp_ne s0 w ws
   refine ⟨(grp s0 (w::ws)).dropLast,?_⟩
   have:=List.dropLast_concat_getLast hne
   rw [List.getLast?_eq_some_getLast hne] at p2
   rw [Option.some.inj p2] at this
   exact this.symm
  rw [hr] at p1 p3
  have hm:mink s0 (w::ws)=s0::r:=by
   rw [mink,hr,if_pos (by simp), ←List.cons_append,List.dropLast_concat]
  rw [hm]
  rw [List.dropLast_concat] at p3
  refine ⟨hin,hle, .inr ⟨?_,p1,fun hmem=>?_⟩⟩
  ·rintro rfl
   exact p1.1.2.1 rfl
  ·obtain ⟨l1,l2,h1,h2,h3,h4,h5⟩:=p3 s0 hmem
   have hz1:sumL l1=(0,0):=by
    have a1:=congrArg Prod.fst h4
    have a2:=congrArg Prod.snd h4
    simp only [ad] at a1 a2
    exact Prod.ext (by simp; omega) (by simp; omega)
   have hz2:sumL l2=(0,0):=by rw [h1,sumL_append,hz1,zero_ad] at hsum; exact hsum
   by_cases hall:∀ u∈l1,Pos u
   ·exact pos_ne (pos_sumL h2 hall) hz1
   ·have:∃ u∈l1,¬ Pos u:=Classical.byContradiction fun hn=>hall fun u hu=>Classical.byContradiction fun hp=>hn ⟨u,hu,hp⟩
    obtain ⟨u,hu,hup⟩:=this
    have hall2:∀ v∈l2.map ng,Pos v:=by
     intro v hv
     obtain ⟨y,hy,rfl⟩:=List.mem_map.1 hv
     rcases h5 u hu y hy with h|h|h
     ·exact h.2
     ·exact absurd h.1 hup
     ·exact h.2.1
    have:=pos_sumL (by simpa using h3) hall2
    rw [sumL_ng,hz2] at this
    exact pos_ne this rfl
end M06
end
section
namespace Go.Am
open M06
theorem plain_encP (l:List Pt):std.plain (encP l)=true:=by
 show List.all _ _=true
 rw [List.all_eq_true]
 intro r hr
 obtain ⟨p,_,rfl⟩:=List.mem_map.1 hr
 rfl
theorem G60_ok {l:List Pt} (hn:l.length≤100000):G60 std (encP l,())=some (encP l,()):=by
 have key:=iter_to (b:=b60_1 std) (fun (i:Nat)=>(encP (l.take i++List.replicate (l.length - i) (0,0)),encP l,(l.length:Int),(i:Int),())) (fun i=>i≤l.length) (fun i=>l.length - i) (fun _=>(encP l,())) (fun i hi=>by
  by_cases hlt:i<l.length
  ·left
   obtain ⟨p,hp⟩:=get_some hlt
   have gp:=encP_get hp
   have c1:(i:Int)<(l.length:Int):=by omega
   have c2:(i:Int)≥0:=by omega
   have hw:=wrap_nat (i:=i) (by omega)
   refine ⟨i+1,?_,by omega,by omega,rfl⟩
   have hle:(encP (l.take i++List.replicate (l.length - i) (0,0))).length=l.length:=by simp [encP]; omega
   have hset:(l.take i++List.replicate (l.length - i) (0,0)).set i p=l.take (i+1)++List.replicate (l.length - (i+1)) (0,0):=by
    rw [take_succ_some hp,show l.length - i=(l.length - (i+1))+1 by omega,List.replicate_succ,List.append_assoc,List.set_append_right _ _ (by simp; omega)]
    congr 1
    have:i - (l.take i).length=0:=by simp; omega
    rw [this]; rfl
   have hle2:(l.take i++List.replicate (l.length - i) (0,0)).length=l.length:=by simp; omega
   have hle3:(l.take (i+1)++List.replicate (l.length - (i+1)) (0,0)).length=l.length:=by simp; omega
   obtain ⟨r,h4⟩:=get_some (l:=l.take i++List.replicate (l.length - i) (0,0)) (i:=i) (by omega)
   have g3:=encP_get h4
   simp only [b60_1,stdS,stdL,cells_eP,dI_eP0,dI_eP1,eP_eq,encP_set,encP_len,hle2,hle3,c1,c2,std_ar_add,hw,gp,g3,hset]
  ·right
   have:i=l.length:=by omega
   subst this
   have hn:¬ ((l.length:Int)<(l.length:Int)):=by omega
   simp only [b60_1,stdS,stdL,hn,List.take_length,Nat.sub_self,List.replicate_zero,List.append_nil]) 0 (Nat.zero_le _)
 unfold G60
 have e0:encP (l.take 0++List.replicate (l.length - 0) (0,0))=List.replicate l.length (eP (0,0)):=by simp [encP]
 rw [e0] at key
 have z:[D.int IntKind.i64 (0:Int),D.int IntKind.i64 (0:Int)]=eP (0,0):=rfl
 have c0:(l.length:Int)≥0:=by omega
 have c1:(l.length:Int)≤(l.length:Int):=by omega
 have c2:(l.length:Int)≤1000000:=by omega
 simp only [g60,it0_eq,stdS,stdL,encP_len,z,c0,c1,c2]
 have k0:((0:Nat):Int)=0:=rfl
 rw [k0] at key
 simp only [key,Option.bind_some,List.length_replicate,if_true,encP_len,List.drop_zero,Nat.le_refl]
 rw [List.take_of_length_le (by rw [encP_len]; exact Nat.le_refl _)]
def rvd (L:List Pt) (n i:Nat):List Pt:=(List.range L.length).map fun j=>if j<n∧(j<i∨n≤j+i) then L.getD (n - 1 - j) (0,0) else L.getD j (0,0)
theorem rvd_get {L:List Pt} {n i j:Nat} (hj:j<L.length):(rvd L n i)[j]?=some (if j<n∧(j<i∨n≤j+i) then L.getD (n - 1 - j) (0,0) else L.getD j (0,0)):=by
 simp [rvd,hj]
theorem rvd_len (L:List Pt) (n i:Nat):(rvd L n i).length=L.length:=by simp [rvd]
theorem list_ext {α:Type} {a b:List α} (h:a.length=b.length) (k:∀ j,j<a.length→a[j]?=b[j]?):a=b:=by
 apply List.ext_getElem?
 intro j
 by_cases hj:j<a.length
 ·exact k j hj
 ·rw [List.getElem?_eq_none (by omega),List.getElem?_eq_none (by omega)]
theorem rvd_zero (L:List Pt) (n:Nat):rvd L n 0=L:=by
 refine list_ext (rvd_len _ _ _) fun j hj=>?_
 rw [rvd_len] at hj
 rw [rvd_get hj,if_neg (by omega)]
 simp [List.getD_eq_getElem?_getD,hj]
theorem rvd_end {L:List Pt} {n i:Nat} (hn:n≤L.length) (hi:n≤2*i+1):rvd L n i=(L.take n).reverse++L.drop n:=by
 refine list_ext (by rw [rvd_len]; simp; omega) fun j hj=>?_
 rw [rvd_len] at hj
 rw [rvd_get hj]
 by_cases h:j<n
 ·rw [List.getElem?_append_left (by simp; omega),List.getElem?_reverse (by simp; omega)]
  have:(List.take n L).length - 1 - j=n - 1 - j:=by simp; omega
  rw [this,List.getElem?_take_of_lt (by omega)]
  by_cases k:j<i∨n≤j+i
  ·rw [if_pos ⟨h,k⟩]
   have:n - 1 - j<L.length:=by omega
   simp [List.getD_eq_getElem?_getD,this]
  ·rw [if_neg (by omega)]
   have:n - 1 - j=j:=by omega
   rw [this]
   simp [List.getD_eq_getElem?_getD,hj]
 ·rw [if_neg (by omega),List.getElem?_append_right (by simp; omega)]
  have:n+(j - (List.take n L).reverse.length)=j:=by simp; omega
  rw [List.getElem?_drop,this]
  simp [List.getD_eq_getElem?_getD,hj]
theorem rvd_step {L:List Pt} {n i:Nat} (hn:n≤L.length) (hi:2*i+1<n):
  ∃ p q,(rvd L n i)[i]?=some p∧(rvd L n i)[n - 1 - i]?=some q∧((rvd L n i).set i q).set (n - 1 - i) p=rvd L n (i+1):=by
 have h1:=rvd_get (L:=L) (n:=n) (i:=i) (j:=i) (by omega)
 have h2:=rvd_get (L:=L) (n:=n) (i:=i) (j:=n - 1 - i) (by omega)
 rw [if_neg (by omega)] at h1 h2
 refine ⟨_,_,h1,h2,?_⟩
 refine list_ext (by simp [rvd_len]) fun j hj=>?_
 simp only [List.length_set,rvd_len] at hj
 rw [rvd_get hj]
 by_cases e1:n - 1 - i=j
 ·subst e1
  rw [List.getElem?_set_self (by simp [rvd_len]; omega),if_pos (by omega)]
  have:n - 1 - (n - 1 - i)=i:=by omega
  rw [this]
 ·rw [List.getElem?_set_ne e1]
  by_cases e2:i=j
  ·subst e2
   rw [List.getElem?_set_self (by simp [rvd_len]; omega),if_pos (by omega)]
  ·rw [List.getElem?_set_ne e2,rvd_get hj]
   congr 1
   by_cases k:j<n∧(j<i∨n≤j+i)
   ·rw [if_pos k,if_pos (by omega)]
   ·rw [if_neg k,if_neg (by omega)]
theorem G89_ok {L:List Pt} {m cap:Nat} (hm:m≤L.length) (hn:L.length≤100000):
  G89 std (encP L,(0:Nat),m,cap,())=some (encP ((L.take m).reverse++L.drop m),()):=by
 have key:=iter_to (b:=b89_1 std) (fun (i:Nat)=>(encP (rvd L m i),(0:Nat),m,cap,(i:Int),(m:Int) - 1 - i,())) (fun i=>i≤m) (fun i=>m - i) (fun _=>(encP ((L.take m).reverse++L.drop m),())) (fun i hi=>by
  by_cases hlt:2*i+1<m
  ·left
   refine ⟨i+1,?_,by omega,by omega,rfl⟩
   obtain ⟨p,q,h1,h2,h3⟩:=rvd_step hm hlt
   have ej:(m:Int) - 1 - i=((m - 1 - i:Nat):Int):=by omega
   have c1:(i:Int)<((m - 1 - i:Nat):Int):=by omega
   have c2:((m - 1 - i:Nat):Int)≥0:=by omega
   have c3:((m - 1 - i:Nat):Int)<(m:Int):=by omega
   have c4:(i:Int)≥0:=by omega
   have c5:(i:Int)<(m:Int):=by omega
   have hw:=wrap_nat (i:=i) (by omega)
   have hw2:IntKind.i64.wrap (((m - 1 - i:Nat):Int) - 1)=(m:Int) - 1 - ((i+1:Nat):Int):=by rw [wrap64]<;>omega
   have g1:=encP_get h1
   have g2:=encP_get h2
   have h4:∃ r,((rvd L m i).set i q)[m - 1 - i]?=some r:=get_some (by rw [List.length_set,rvd_len]; omega)
   obtain ⟨r,h4⟩:=h4
   have g3:=encP_get h4
   simp only [ej,b89_1,stdS,stdL,cells_eP,dI_eP0,dI_eP1,eP_eq,encP_set,encP_len,c1,c2,c3,c4,c5,std_ar_add,std_ar_sub,hw,hw2,g1,g2,g3,h3]
  ·right
   have hge:¬ ((i:Int)<(m:Int) - 1 - i):=by omega
   simp only [b89_1,stdS,stdL,hge]
   rw [rvd_end hm (by omega)]) 0 (Nat.zero_le _)
 unfold G89
 have hw:IntKind.i64.wrap ((m:Int) - 1)=(m:Int) - 1 - ((0:Nat):Int):=by rw [wrap64]<;>omega
 rw [rvd_zero] at key
 simp only [g89,it0_eq,std_ofNat,std_ar_sub,hw,bnd_eq,ret_eq]
 have k0:((0:Nat):Int)=0:=rfl
 simp only [k0] at key⊢
 simp only [key,Option.bind_some]
theorem chain_chn (l:List Pt):chain l=chn l:=rfl
theorem chn_len {q:List Pt} (hs:q.Pairwise Lt) (h2:2≤q.length):2≤(chn q).length∧2≤(chn q.reverse).length:=by
 have main:∀ {q:List Pt},q.Pairwise Lt→2≤q.length→2≤(chn q).length:=by
  intro q hs h2
  match q,h2 with
  |a::b::m,_=>
   obtain ⟨z,hz⟩:∃ z,(a::b::m).getLast?=some z:=⟨_,List.getLast?_eq_some_getLast (by simp)⟩
   have haz:Lt a z:=by
    have h:=hz
    rw [List.getLast?_cons_cons] at h
    exact (List.pairwise_cons.1 hs).1 z (List.mem_of_getLast? h)
   obtain ⟨t,h1,h3,_⟩:=chn_spec rfl hz hs
   rw [h1]
   match t,h3 with
   |[],h3=>exact absurd (Option.some.inj h3).symm haz.ne
   |x::t,_=>simp
 refine ⟨main hs h2,?_⟩
 have hrz:(q.reverse.map ng).Pairwise Lt:=by
  rw [List.pairwise_map,List.pairwise_reverse]
  exact hs.imp fun h=>(ng_lt _ _).2 h
 have:=main hrz (by simpa using h2)
 rw [chn_ng] at this
 simpa using this
theorem G59_ok {l:List Pt} (h1:1≤l.length) (h12:l.length≤12) (hl:∀ x∈l,Small x):
  ∃ c,G59 std (encP l,())=some (encP c,())∧Cyc l c:=by
 obtain ⟨l',hs,hp,ho⟩:=sort_o l h12
 have hlen:l'.length=l.length:=hp.length_eq
 obtain ⟨L,m,hg,hL,hm,hu⟩:=G101_ok (l:=l') ho (by omega)
 generalize hq:L.take m=q at hu
 have hql:q.length=m:=by rw [←hq]; simp; omega
 have hqm:∀ x,x∈q↔x∈l:=fun x=>(hu.2 x).trans hp.mem_iff
 have hqne:q≠[]:=by
  rintro rfl
  match l,h1 with
  |a::l,_=>have:=(hqm a).2 (by simp); simp at this
 have hm1:1≤m:=by rw [←hql]; exact List.length_pos_iff.2 hqne
 have hqs:∀ x∈q,Small x:=fun x hx=>hl x ((hqm x).1 hx)
 obtain ⟨hc,_⟩:=hull_cyc hqne hu.1 hqm
 refine ⟨hull q,?_,hc⟩
 have e86:g86 it0 std (encP l,())=some (encP L,(0:Nat),m,l.length,()):=by
  have c0:(l.length:Int)≥0:=by omega
  have c1:(l.length:Int)≤(l.length:Int):=by omega
  have c2:(l.length:Int)≤1000000:=by omega
  have z:[D.int IntKind.i64 (0:Int),D.int IntKind.i64 (0:Int)]=eP (0,0):=rfl
  have hg':g101 it0 std (encP l',(0:Nat),l.length,l.length,())=some (encP L,(0:Nat),m,l.length,()):=by
   have:=hg
   rw [hlen] at this
   exact this
  have hs':g97o it0 std (encP l,())=some (encP l',()):=hs
  have hsp:List.take 0 (List.replicate l.length (eP (0,0)))++encP l++List.drop (encP l).length (List.replicate l.length (eP (0,0)))=encP l:=by
   simp [encP_len]
  simp only [g86,stdS,stdL,encP_len,z,c0,c1,c2,Nat.le_refl,List.length_replicate]
  simp only [encP_len] at hsp
  simp only [hsp,hs',Option.bind_some,hg',encP_len,if_true]
 unfold G59
 have ht:(encP L).take m=encP q:=by rw [←hq]; simp [encP]
 have cL:m≤L.length:=by omega
 by_cases hm':m=1
 ·have c1:(m:Int)=1:=by omega
  simp only [g59,e86,stdS,stdL,c1,cL,encP_len,List.drop_zero,ht]
  rw [hull,if_pos (by omega)]
 ·have c1:¬ (m:Int)=1:=by omega
  have g1:=G88_ok hqs (by omega) (by omega)
  have hqr:∀ x∈q.reverse,Small x:=fun x hx=>hqs x (by simpa using hx)
  have g2:=G88_ok hqr (by simp; omega) (by simp; omega)
  rw [chain_chn] at g1 g2
  have hl2:=chn_len hu.1 (by omega)
  have g89:=G89_ok (L:=L) (m:=m) (cap:=l.length) cL (by omega)
  obtain ⟨g1,g1a,g1b⟩:=g1
  obtain ⟨g2,g2a,g2b⟩:=g2
  unfold G88 at g1 g2
  unfold G89 at g89
  have ht2:(encP ((L.take m).reverse++L.drop m)).take m=encP q.reverse:=by
   rw [hq]
   have:(encP (q.reverse++L.drop m))=encP q.reverse++encP (L.drop m):=by simp [encP]
   rw [this,List.take_append_of_le_length (by rw [encP_len]; simp; omega),List.take_of_length_le (by rw [encP_len]; simp; omega)]
  have cL2:m≤((L.take m).reverse++L.drop m).length:=by simp; omega
  have n1:¬ ((chn q).length - 1+((chn q.reverse).length - 1)≤(chn q).length - 1):=by omega
  have n2:(chn q.reverse).length - 1≤(chn q.reverse).length:=by omega
  have n3:(chn q).length - 1≤(chn q).length:=by omega
  have n4:1≤(chn q.reverse).length - 1:=by omega
  simp only [List.length_reverse] at g2b
  have n5:(chn q).length - 1+((chn q.reverse).length - 1)≤1000000:=by omega
  have hd:∀ c:List Pt,(encP c).take (c.length - 1)=encP c.dropLast:=by
   intro c; rw [List.dropLast_eq_take]; simp [encP]
  have hfin:∀ a b:List Pt,encP a++encP b=encP (a++b):=by intros; simp [encP]
  have n6:(chn q).length - 1+((chn q.reverse).length - 1)≤((chn q).dropLast++(chn q.reverse).dropLast).length:=by simp
  have htk:(encP ((chn q).dropLast++(chn q.reverse).dropLast)).take ((chn q).length - 1+((chn q.reverse).length - 1))=encP ((chn q).dropLast++(chn q.reverse).dropLast):=by
   rw [List.take_of_length_le (by rw [encP_len]; simp)]
  simp only [g59,e86,stdS,stdL,c1,cL,encP_len,List.drop_zero,ht,g1,plain_encP,g89,ht2,cL2,g2,n1,n2,n3,n4,n5,hd,hfin,n6,htk]
  rw [hull,if_neg (by omega)]
end Go.Am
end
noncomputable section
namespace Go.Am
def ctr80:Ctr:=
 ⟨80,[.list 2, .list 2],[],[(.ret,⟨[(0, .list 2)],[],1⟩)]⟩
def la80:List LA:=
 [⟨80,[false,true,false,true,true],0,⟨⟨[(0, .list 2),(1, .list 2),(5, .bptr 0 0),(15, .full 1 1),(16, .int .i64),(17, .int .i64)],[.box [.vec 2 2], .row [(CK.list 2)], .row [ci,ci]],82⟩,[((AX.exit 0),⟨[(0, .list 2),(1, .list 2),(5, .bptr 0 0)],[.box [.vec 1 2], .row [ci,ci]],82⟩)]⟩⟩,
 ⟨94,[false,true],5,⟨⟨[(0, .yld 4),(1, .bptr 3 0),(6, .list 2),(7, .int .i64),(8, .int .i64)],[.box [.vec 5 2], .row [(CK.list 2)], .dead, .box [.list 2], .loop Go.LoopState.ready Option.none 80 [Bool.false,Bool.true,Bool.true,Bool.false,Bool.false,Bool.true,Bool.true,Bool.false,Bool.false,Bool.true,Bool.false,Bool.true,Bool.true] 82 [(22, .clo 94 [] [.bptr 3 0]),(16, .int .i64),(15, .full 1 1),(5, .bptr 0 0),(1, .list 2),(0, .list 2),(17, .int .i64)], .row [ci,ci]],33⟩,[(AX.ret,⟨[],[.box [.vec 5 2], .row [(CK.list 2)], .dead, .box [.list 2], .loop Go.LoopState.ready Option.none 80 [Bool.false,Bool.true,Bool.true,Bool.false,Bool.false,Bool.true,Bool.true,Bool.false,Bool.false,Bool.true,Bool.false,Bool.true,Bool.true] 82 [(22, .clo 94 [] [.bptr 3 0]),(16, .int .i64),(15, .full 1 1),(5, .bptr 0 0),(1, .list 2),(0, .list 2),(17, .int .i64)], .row [ci,ci]],33⟩),((AX.exit 0),⟨[],[.box [.vec 5 2], .row [(CK.list 2)], .dead, .box [.list 2], .loop Go.LoopState.ready Option.none 80 [Bool.false,Bool.true,Bool.true,Bool.false,Bool.false,Bool.true,Bool.true,Bool.false,Bool.false,Bool.true,Bool.false,Bool.true,Bool.true] 82 [(22, .clo 94 [] [.bptr 3 0]),(16, .int .i64),(15, .full 1 1),(5, .bptr 0 0),(1, .list 2),(0, .list 2),(17, .int .i64)], .row [ci,ci]],33⟩)]⟩⟩,
 ⟨80,[false,true,false,true,true,true,true,true,true],0,⟨⟨[(5, .bptr 0 0),(9, .bptr 1 0),(10, .sl 2 2),(42, .vec 3 2),(43, .int .i64),(44, .int .i64)],[.box [.vec 3 2], .box [.int .i64, .int .i64], .row [ci,ci], .row [ci,ci]],82⟩,[((AX.exit 4),⟨[(10, .sl 0 2)],[.row [ci,ci]],82⟩)]⟩⟩]
def ja80:List JA:=
 [⟨80,[true,true,false,false,true,true,false,false,true,false,true,true],0,[(AX.normal,⟨[(0, .list 2),(1, .list 2),(5, .bptr 0 0),(15, .full 1 1),(16, .int .i64),(17, .int .i64)],[.box [.vec 2 2], .row [(CK.list 2)], .row [ci,ci]],82⟩)]⟩,
 ⟨80,[false,true,true,false,false,true,false,true,true,true,true,true,true],0,[(AX.normal,⟨[(5, .bptr 0 0),(9, .bptr 1 0),(10, .sl 2 2),(42, .vec 3 2),(43, .int .i64),(44, .int .i64)],[.box [.vec 3 2], .box [.int .i64, .int .i64], .row [ci,ci], .row [ci,ci]],82⟩)]⟩,
 ⟨80,[true,false,true,true,true,true,true,true,true],0,[(AX.normal,⟨[(10, .sl 0 2)],[.row [ci,ci]],82⟩)]⟩]
def gam80:List CF:=
 [⟨ctr98,G98⟩,⟨ctr99,G99⟩,⟨ctr97t,F97t⟩]
def an80:Anns:=
 ⟨gam80,ja80,[]⟩
def c80_3 (it:It) (p:Prim):(LD×(LD×T32))→Option ((LD×(LD×T32))⊕(LD×T19)):=
 fun a=>opt.run _ (
 opt.ask _ (p.cmp .lss a.2.2.2.2.2.2.2.1 a.2.2.2.2.2.2.1) (
 opt.bnd ((LD×(LD×T32))) _ (
 opt.run ((LD×(LD×T32))) (
 opt.need _ (bif (p.cmp .geq a.2.2.2.2.2.2.2.1 (0:Int)) then (p.cmp .lss a.2.2.2.2.2.2.2.1 (p.ofNat (p.len a.2.1))) else Bool.false)<|
 opt.need _ (p.rowOk a.2.1 (p.add 0 (p.nat a.2.2.2.2.2.2.2.1)) [ci,ci])<|
 opt.need _ (p.and (p.leN (p.add 0 2) (p.len [[(D.int .i64 a.2.2.1),(D.int .i64 a.2.2.2.1)],[(D.int .i64 (p.rdI a.2.1 (p.add 0 (p.nat a.2.2.2.2.2.2.2.1)) 0)),(D.int .i64 (p.rdI a.2.1 (p.add 0 (p.nat a.2.2.2.2.2.2.2.1)) 1))]])) Bool.true)<|
 opt.bnd T5 _ (g99 it p ((p.cut [[(D.int .i64 a.2.2.1),(D.int .i64 a.2.2.2.1)],[(D.int .i64 (p.rdI a.2.1 (p.add 0 (p.nat a.2.2.2.2.2.2.2.1)) 0)),(D.int .i64 (p.rdI a.2.1 (p.add 0 (p.nat a.2.2.2.2.2.2.2.1)) 1))]] 0 2),())) fun b=>
 opt.ask _ (p.cmp .lss (p.ar .add .i64 a.2.2.2.2.2.2.2.1 (1:Int)) (p.ofNat (p.len a.2.1))) (
 opt.need _ (bif (p.cmp .geq (p.ar .add .i64 a.2.2.2.2.2.2.2.1 (1:Int)) (0:Int)) then (p.cmp .lss (p.ar .add .i64 a.2.2.2.2.2.2.2.1 (1:Int)) (p.ofNat (p.len a.2.1))) else Bool.false)<|
 opt.need _ (p.rowOk a.2.1 (p.add 0 (p.nat (p.ar .add .i64 a.2.2.2.2.2.2.2.1 (1:Int)))) [ci,ci])<|
 opt.bnd T0 _ (G98 p ((p.rdI a.2.1 (p.add 0 (p.nat a.2.2.2.2.2.2.2.1)) 0),((p.rdI a.2.1 (p.add 0 (p.nat a.2.2.2.2.2.2.2.1)) 1),((p.rdI a.2.1 (p.add 0 (p.nat (p.ar .add .i64 a.2.2.2.2.2.2.2.1 (1:Int)))) 0),((p.rdI a.2.1 (p.add 0 (p.nat (p.ar .add .i64 a.2.2.2.2.2.2.2.1 (1:Int)))) 1),()))))) fun c=>
 opt.ask _ (p.cmp .eql c.1 (0:Int)) (
 opt.need _ (p.eqN 0 0)<|
 opt.need _ (p.eqN (p.len a.2.1) (p.len a.2.1))<|
 opt.need _ (p.eqN 0 0)<|
 opt.need _ (p.eqN (p.len a.2.1) (p.len a.2.1))<|
 opt.ret _ (a.1,(a.2.1,(b.1,(b.2.1,(a.2.2.2.2.1,(a.2.2.2.2.2.1,(a.2.2.2.2.2.2.1,(a.2.2.2.2.2.2.2.1,()))))))))) (
 opt.need _ (p.and (p.leN (p.add 0 1) (p.len [[(D.int .i64 b.1),(D.int .i64 b.2.1)]])) (p.and (p.leN (p.add a.2.2.2.2.1 a.2.2.2.2.2.1) (p.len a.1)) (p.and (p.leN 1 1) (p.leN (p.add a.2.2.2.2.2.1 1) 1000000))))<|
 opt.need _ (p.eqN 0 0)<|
 opt.need _ (p.eqN (p.len a.2.1) (p.len a.2.1))<|
 opt.need _ (p.eqN 0 0)<|
 opt.need _ (p.eqN (p.len a.2.1) (p.len a.2.1))<|
 opt.ret _ ((p.app (p.cut a.1 a.2.2.2.2.1 a.2.2.2.2.2.1) (p.cut [[(D.int .i64 b.1),(D.int .i64 b.2.1)]] 0 1)),(a.2.1,(b.1,(b.2.1,(0,((p.add a.2.2.2.2.2.1 1),(a.2.2.2.2.2.2.1,(a.2.2.2.2.2.2.2.1,())))))))))) (
 opt.need _ (p.and (p.leN (p.add 0 1) (p.len [[(D.int .i64 b.1),(D.int .i64 b.2.1)]])) (p.and (p.leN (p.add a.2.2.2.2.1 a.2.2.2.2.2.1) (p.len a.1)) (p.and (p.leN 1 1) (p.leN (p.add a.2.2.2.2.2.1 1) 1000000))))<|
 opt.need _ (p.eqN 0 0)<|
 opt.need _ (p.eqN (p.len a.2.1) (p.len a.2.1))<|
 opt.need _ (p.eqN 0 0)<|
 opt.need _ (p.eqN (p.len a.2.1) (p.len a.2.1))<|
 opt.ret _ ((p.app (p.cut a.1 a.2.2.2.2.1 a.2.2.2.2.2.1) (p.cut [[(D.int .i64 b.1),(D.int .i64 b.2.1)]] 0 1)),(a.2.1,(b.1,(b.2.1,(0,((p.add a.2.2.2.2.2.1 1),(a.2.2.2.2.2.2.1,(a.2.2.2.2.2.2.2.1,()))))))))))) fun d=>
 opt.need _ (p.eqN 0 0)<|
 opt.need _ (p.eqN (p.len d.2.1) (p.len d.2.1))<|
 opt.need _ (p.eqN 0 0)<|
 opt.need _ (p.eqN (p.len d.2.1) (p.len d.2.1))<|
 opt.ret _ (Sum.inl (d.1,(d.2.1,(d.2.2.1,(d.2.2.2.1,(d.2.2.2.2.1,(d.2.2.2.2.2.1,(d.2.2.2.2.2.2.1,((p.ar .add .i64 d.2.2.2.2.2.2.2.1 (1:Int)),())))))))))) (
 opt.ret _ (Sum.inr (a.1,(a.2.2.2.2.1,(a.2.2.2.2.2.1,()))))))
def b80_2 (p:Prim):(LD×(LD×(LD×T68)))→Option ((LD×(LD×(LD×T68)))⊕((LD×(LD×(LD×T24)))⊕(LD×(LD×(LD×T24))))):=
 fun a=>opt.run _ (
 opt.ask _ (p.cmp .lss a.2.2.2.2.2.2.2.2.2.1 a.2.2.2.2.2.2.2.2.1) (
 opt.need _ (p.rowOk a.2.2.2.2.2.2.2.1 (p.nat a.2.2.2.2.2.2.2.2.2.1) [ci,ci])<|
 opt.need _ (p.cmp .geq a.2.2.2.2.2.2.2.2.2.1 (0:Int))<|
 opt.need _ (p.cmp .neq (p.ofNat (p.len a.2.2.1)) (0:Int))<|
 opt.need _ (p.rowOk a.2.2.1 (p.nat (p.ar .rem .i64 (p.ar .add .i64 a.2.2.2.2.2.2.2.2.2.1 (1:Int)) (p.ofNat (p.len a.2.2.1)))) [ci,ci])<|
 opt.need _ (p.cmp .geq (p.ar .rem .i64 (p.ar .add .i64 a.2.2.2.2.2.2.2.2.2.1 (1:Int)) (p.ofNat (p.len a.2.2.1))) (0:Int))<|
 opt.ask _ (bif (p.cmp .eql (p.ar .sub .i64 (p.rdI a.2.2.1 (p.nat (p.ar .rem .i64 (p.ar .add .i64 a.2.2.2.2.2.2.2.2.2.1 (1:Int)) (p.ofNat (p.len a.2.2.1)))) 0) (p.rdI a.2.2.2.2.2.2.2.1 (p.nat a.2.2.2.2.2.2.2.2.2.1) 0)) (0:Int)) then (bif (p.cmp .eql (p.ar .sub .i64 (p.rdI a.2.2.1 (p.nat (p.ar .rem .i64 (p.ar .add .i64 a.2.2.2.2.2.2.2.2.2.1 (1:Int)) (p.ofNat (p.len a.2.2.1)))) 1) (p.rdI a.2.2.2.2.2.2.2.1 (p.nat a.2.2.2.2.2.2.2.2.2.1) 1)) (0:Int)) then Bool.true else Bool.false) else Bool.false) (
 opt.need _ (p.eqN 0 0)<|
 opt.need _ (p.eqN (p.len a.2.1) (p.len a.2.1))<|
 opt.need _ (p.eqN 0 0)<|
 opt.need _ (p.eqN (p.len a.1) (p.len a.1))<|
 opt.need _ (p.eqN (p.len a.1) (p.len a.1))<|
 opt.ret _ (Sum.inr (Sum.inl (a.1,(a.2.1,(a.2.2.1,(a.2.2.2.1,(a.2.2.2.2.1,(a.2.2.2.2.2.1,(a.2.2.2.2.2.2.1,())))))))))) (
 opt.need _ (p.and (p.leN (p.add 0 1) (p.len [[(D.int .i64 (p.ar .sub .i64 (p.rdI a.2.2.1 (p.nat (p.ar .rem .i64 (p.ar .add .i64 a.2.2.2.2.2.2.2.2.2.1 (1:Int)) (p.ofNat (p.len a.2.2.1)))) 0) (p.rdI a.2.2.2.2.2.2.2.1 (p.nat a.2.2.2.2.2.2.2.2.2.1) 0))),(D.int .i64 (p.ar .sub .i64 (p.rdI a.2.2.1 (p.nat (p.ar .rem .i64 (p.ar .add .i64 a.2.2.2.2.2.2.2.2.2.1 (1:Int)) (p.ofNat (p.len a.2.2.1)))) 1) (p.rdI a.2.2.2.2.2.2.2.1 (p.nat a.2.2.2.2.2.2.2.2.2.1) 1)))]])) (p.and (p.leN (p.add 0 (p.len a.2.1)) (p.len a.2.1)) (p.and (p.leN 1 1) (p.leN (p.add (p.len a.2.1) 1) 1000000))))<|
 opt.need _ (p.eqN 0 0)<|
 opt.need _ (p.eqN (p.add (p.len a.2.1) 1) (p.len (p.app (p.cut a.2.1 0 (p.len a.2.1)) (p.cut [[(D.int .i64 (p.ar .sub .i64 (p.rdI a.2.2.1 (p.nat (p.ar .rem .i64 (p.ar .add .i64 a.2.2.2.2.2.2.2.2.2.1 (1:Int)) (p.ofNat (p.len a.2.2.1)))) 0) (p.rdI a.2.2.2.2.2.2.2.1 (p.nat a.2.2.2.2.2.2.2.2.2.1) 0))),(D.int .i64 (p.ar .sub .i64 (p.rdI a.2.2.1 (p.nat (p.ar .rem .i64 (p.ar .add .i64 a.2.2.2.2.2.2.2.2.2.1 (1:Int)) (p.ofNat (p.len a.2.2.1)))) 1) (p.rdI a.2.2.2.2.2.2.2.1 (p.nat a.2.2.2.2.2.2.2.2.2.1) 1)))]] 0 1))))<|
 opt.need _ (p.eqN 0 0)<|
 opt.need _ (p.eqN (p.len a.1) (p.len a.1))<|
 opt.need _ (p.eqN (p.len a.1) (p.len a.1))<|
 opt.ret _ (Sum.inl (a.1,((p.app (p.cut a.2.1 0 (p.len a.2.1)) (p.cut [[(D.int .i64 (p.ar .sub .i64 (p.rdI a.2.2.1 (p.nat (p.ar .rem .i64 (p.ar .add .i64 a.2.2.2.2.2.2.2.2.2.1 (1:Int)) (p.ofNat (p.len a.2.2.1)))) 0) (p.rdI a.2.2.2.2.2.2.2.1 (p.nat a.2.2.2.2.2.2.2.2.2.1) 0))),(D.int .i64 (p.ar .sub .i64 (p.rdI a.2.2.1 (p.nat (p.ar .rem .i64 (p.ar .add .i64 a.2.2.2.2.2.2.2.2.2.1 (1:Int)) (p.ofNat (p.len a.2.2.1)))) 1) (p.rdI a.2.2.2.2.2.2.2.1 (p.nat a.2.2.2.2.2.2.2.2.2.1) 1)))]] 0 1)),(a.2.2.1,(a.2.2.2.1,(a.2.2.2.2.1,(a.2.2.2.2.2.1,(a.2.2.2.2.2.2.1,(a.2.2.2.2.2.2.2.1,(a.2.2.2.2.2.2.2.2.1,((p.ar .add .i64 a.2.2.2.2.2.2.2.2.2.1 (1:Int)),()))))))))))))) (
 opt.need _ (p.eqN 0 0)<|
 opt.need _ (p.eqN (p.len a.2.1) (p.len a.2.1))<|
 opt.need _ (p.eqN 0 0)<|
 opt.need _ (p.eqN (p.len a.1) (p.len a.1))<|
 opt.need _ (p.eqN (p.len a.1) (p.len a.1))<|
 opt.ret _ (Sum.inr (Sum.inr (a.1,(a.2.1,(a.2.2.1,(a.2.2.2.1,(a.2.2.2.2.1,(a.2.2.2.2.2.1,(a.2.2.2.2.2.2.1,())))))))))))
def c80_1 (it:It) (p:Prim):(LD×(LD×(LD×(LD×T4))))→Option ((LD×(LD×(LD×(LD×T4))))⊕(LD×(LD×(LD×Unit)))):=
 fun a=>opt.run _ (
 opt.ask _ (p.cmp .lss a.2.2.2.2.2.1 a.2.2.2.2.1) (
 opt.need _ (bif (p.cmp .geq a.2.2.2.2.2.1 (0:Int)) then (p.cmp .lss a.2.2.2.2.2.1 (p.ofNat (p.len a.1))) else Bool.false)<|
 opt.need _ (p.rowOk a.1 (p.add 0 (p.nat a.2.2.2.2.2.1)) [(CK.list 2)])<|
 opt.bnd ((LD×(LD×(LD×(LD×T4))))) _ (
 opt.run ((LD×(LD×(LD×(LD×T4))))) (
 opt.need _ (p.eqN 0 0)<|
 opt.need _ (p.eqN (p.len a.2.1) (p.len a.2.1))<|
 opt.need _ (p.eqN 0 0)<|
 opt.need _ (p.eqN (p.len a.1) (p.len a.1))<|
 opt.need _ (p.eqN (p.len a.1) (p.len a.1))<|
 opt.alt ((LD×(LD×(LD×T24)))) ((LD×(LD×(LD×T24)))) _ (
 it _ _ (b80_2 p) (a.1,(a.2.1,((p.rdL a.1 (p.add 0 (p.nat a.2.2.2.2.2.1)) 0),(a.2.2.2.2.1,(a.2.2.2.1,(a.2.2.1,(a.2.2.2.2.2.1,((p.rdL a.1 (p.add 0 (p.nat a.2.2.2.2.2.1)) 0),((p.ofNat (p.len (p.rdL a.1 (p.add 0 (p.nat a.2.2.2.2.2.1)) 0))),((0:Int),()))))))))))) (fun b=>
 opt.need _ (p.eqN 0 0)<|
 opt.need _ (p.eqN (p.len b.2.1) (p.len b.2.1))<|
 opt.need _ (p.eqN 0 0)<|
 opt.need _ (p.eqN (p.len a.1) (p.len b.1))<|
 opt.need _ (p.eqN (p.len a.1) (p.len b.1))<|
 opt.ret _ (b.1,(b.2.1,(a.2.2.1,(a.2.2.2.1,(a.2.2.2.2.1,(a.2.2.2.2.2.1,()))))))) (fun c=>
 opt.bnd ((LD×(LD×(LD×T24)))) _ (some c) fun d=>
 opt.need _ (p.eqN 0 0)<|
 opt.need _ (p.eqN (p.len d.2.1) (p.len d.2.1))<|
 opt.need _ (p.eqN 0 0)<|
 opt.need _ (p.eqN (p.len a.1) (p.len d.1))<|
 opt.need _ (p.eqN (p.len a.1) (p.len d.1))<|
 opt.ret _ (d.1,(d.2.1,(a.2.2.1,(a.2.2.2.1,(a.2.2.2.2.1,(a.2.2.2.2.2.1,()))))))))) fun e=>
 opt.need _ (p.eqN 0 0)<|
 opt.need _ (p.eqN (p.len e.2.1) (p.len e.2.1))<|
 opt.need _ (p.eqN 0 0)<|
 opt.need _ (p.eqN (p.len e.1) (p.len e.1))<|
 opt.need _ (p.eqN (p.len e.1) (p.len e.1))<|
 opt.ret _ (Sum.inl (e.1,(e.2.1,(e.2.2.1,(e.2.2.2.1,(e.2.2.2.2.1,((p.ar .add .i64 e.2.2.2.2.2.1 (1:Int)),())))))))) (
 opt.need _ (p.eqN 0 0)<|
 opt.need _ (p.eqN (p.len a.2.1) (p.len a.2.1))<|
 opt.ret _ (Sum.inr (a.2.1,(a.2.2.1,(a.2.2.2.1,()))))))
def g80 (it:It):(p:Prim)→(LD×(LD×Unit))→Option ((LD×Unit)):=
 fun p x=>
 opt.need _ (p.eqN 0 0)<|
 opt.need _ (p.eqN 2 (p.len [[(D.list Bool.false 2 x.1)],[(D.list Bool.false 2 x.2.1)]]))<|
 opt.need _ (p.eqN 2 (p.len [[(D.list Bool.false 2 x.1)],[(D.list Bool.false 2 x.2.1)]]))<|
 opt.bnd ((LD×(LD×(LD×Unit)))) _ (
 it _ _ (c80_1 it p) ([[(D.list Bool.false 2 x.1)],[(D.list Bool.false 2 x.2.1)]],([],(x.1,(x.2.1,((p.ofNat 2),((0:Int),()))))))) fun a=>
 opt.need _ (p.eqN 0 0)<|
 opt.need _ (p.eqN (p.len a.1) (p.len a.1))<|
 opt.bnd ((LD×Unit)) _ (g97t it p (a.1,())) fun b=>
 opt.need _ (p.rowOk a.2.1 (p.nat (0:Int)) [ci,ci])<|
 opt.need _ (p.rowOk a.2.2.1 (p.nat (0:Int)) [ci,ci])<|
 opt.need _ (p.and (p.leN (p.add 0 2) (p.len [[(D.int .i64 (p.rdI a.2.1 (p.nat (0:Int)) 0)),(D.int .i64 (p.rdI a.2.1 (p.nat (0:Int)) 1))],[(D.int .i64 (p.rdI a.2.2.1 (p.nat (0:Int)) 0)),(D.int .i64 (p.rdI a.2.2.1 (p.nat (0:Int)) 1))]])) Bool.true)<|
 opt.bnd T5 _ (g99 it p ((p.cut [[(D.int .i64 (p.rdI a.2.1 (p.nat (0:Int)) 0)),(D.int .i64 (p.rdI a.2.1 (p.nat (0:Int)) 1))],[(D.int .i64 (p.rdI a.2.2.1 (p.nat (0:Int)) 0)),(D.int .i64 (p.rdI a.2.2.1 (p.nat (0:Int)) 1))]] 0 2),())) fun c=>
 opt.need _ (p.eqN 0 0)<|
 opt.need _ (p.eqN (p.len a.1) (p.len b.1))<|
 opt.need _ (p.leN (p.add 0 1) (p.len [[(D.int .i64 c.1),(D.int .i64 c.2.1)]]))<|
 opt.need _ (p.eqN 0 0)<|
 opt.need _ (p.eqN (p.len a.1) (p.len b.1))<|
 opt.bnd ((LD×T19)) _ (
 it _ _ (c80_3 it p) ([[(D.int .i64 c.1),(D.int .i64 c.2.1)]],(b.1,(c.1,(c.2.1,(0,(1,((p.ofNat (p.len a.1)),((0:Int),()))))))))) fun d=>
 opt.bnd ((LD×T19)) _ (
 opt.run ((LD×T19)) (
 opt.ask _ (p.cmp .gtr (p.ofNat d.2.2.1) (1:Int)) (
 opt.need _ (p.and (p.cmp .geq (0:Int) (0:Int)) (p.and (p.cmp .leq (0:Int) (p.ar .sub .i64 (p.ofNat d.2.2.1) (1:Int))) (p.cmp .leq (p.ar .sub .i64 (p.ofNat d.2.2.1) (1:Int)) (p.ofNat d.2.2.1))))<|
 opt.ret _ (d.1,((p.add d.2.1 (p.nat (0:Int))),((p.sub (p.nat (p.ar .sub .i64 (p.ofNat d.2.2.1) (1:Int))) (p.nat (0:Int))),())))) (
 opt.ret _ (d.1,(d.2.1,(d.2.2.1,())))))) fun e=>
 opt.need _ (p.leN (p.add e.2.1 e.2.2.1) (p.len e.1))<|
 opt.ret _ ((p.cut e.1 e.2.1 e.2.2.1),())
def G80:=g80 it0
theorem ok80:CtrOk PG ctr80 (G80 std):=okF (a:=an80) (l:=la80) (gC ok98 (gC ok99 (gC ok97t (gN)))) (by kernel_rfl) fun _ _=>by kernel_rfl
end Go.Am
end
noncomputable section
namespace Go.Am
def ctr48:Ctr:=
 ⟨48,[.agg [.list 2, .list 1]],[],[(.ret,⟨[(0, .tuple [.nilp, .int .i64])],[],1⟩),(.ret,⟨[(0, .tuple [.bptr 0 0, .int .i64])],[.box [.list 2, .list 1, .list 2]],1⟩)]⟩
def la48:List LA:=
 [⟨48,[false,true,false,true,true,true],0,⟨⟨[(5, .bptr 0 0),(24, .list 1),(25, .int .i64),(26, .int .i64)],[.box [.list 2, .list 1, .list 2]],43⟩,[((AX.exit 0),⟨[(5, .bptr 0 0)],[.box [.list 2, .list 1, .list 2]],43⟩)]⟩⟩]
def ja48:List JA:=
 []
def gam48:List CF:=
 [⟨ctr80,G80⟩,⟨ctr59,G59⟩,⟨ctr60,G60⟩,⟨ctr18,G18⟩]
def an48:Anns:=
 ⟨gam48,ja48,[]⟩
def c48_1 (it:It) (p:Prim):(LD×(LD×(LD×(LD×T4))))→Option ((LD×(LD×(LD×(LD×T4))))⊕(LD×(LD×(LD×Unit)))):=
 fun a=>opt.run _ (
 opt.ask _ (p.cmp .lss a.2.2.2.2.2.1 a.2.2.2.2.1) (
 opt.need _ (p.rowOk a.2.2.2.1 (p.nat a.2.2.2.2.2.1) [(CK.list 2)])<|
 opt.need _ (p.cmp .geq a.2.2.2.2.2.1 (0:Int))<|
 opt.bnd ((LD×Unit)) _ (g60 it p ((p.rdL a.2.2.2.1 (p.nat a.2.2.2.2.2.1) 0),())) fun b=>
 opt.bnd ((LD×Unit)) _ (g59 it p (b.1,())) fun c=>
 opt.bnd ((LD×Unit)) _ (g80 it p (a.2.2.1,(c.1,()))) fun d=>
 opt.ret _ (Sum.inl (a.1,(a.2.1,(d.1,(a.2.2.2.1,(a.2.2.2.2.1,((p.ar .add .i64 a.2.2.2.2.2.1 (1:Int)),())))))))) (
 opt.ret _ (Sum.inr (a.1,(a.2.1,(a.2.2.1,()))))))
def g48 (it:It):(p:Prim)→(LD×(LD×Unit))→Option (((Int×Unit)⊕(LD×(LD×(LD×(Int×Unit)))))):=
 fun p x=>
 opt.bnd T0 _ (g18 it p (x.1,(x.2.1,()))) fun a=>
 opt.ask _ (p.cmp .neq a.1 (0:Int)) (
 opt.ret _ (Sum.inl (a.1,()))) (
 opt.bnd ((LD×Unit)) _ (g60 it p (x.1,())) fun b=>
 opt.bnd ((LD×Unit)) _ (g59 it p (b.1,())) fun c=>
 opt.bnd ((LD×(LD×(LD×Unit)))) _ (
 it _ _ (c48_1 it p) (x.1,(x.2.1,(c.1,(x.2.1,((p.ofNat (p.len x.2.1)),((0:Int),()))))))) fun d=>
 opt.ret _ (Sum.inr (d.1,(d.2.1,(d.2.2.1,((0:Int),()))))))
def G48:=g48 it0
theorem ok48:CtrOk PG ctr48 (G48 std):=okF (a:=an48) (l:=la48) (gC ok80 (gC ok59 (gC ok60 (gC ok18 (gN))))) (by kernel_rfl) fun _ _=>by kernel_rfl
def ctr16:Ctr:=
 ⟨16,[.agg [.list 2, .list 1]],[],[(.ret,⟨[(0, .tuple [.vec 0 2, .int .i64])],[.row [ci,ci]],1⟩)]⟩
def la16:List LA:=
 [⟨16,[false,true,false,true,true,true,true],0,⟨⟨[(6, .vec 0 2),(20, .list 2),(21, .int .i64),(22, .int .i64)],[.row [ci,ci]],36⟩,[((AX.exit 0),⟨[(6, .vec 0 2)],[.row [ci,ci]],36⟩)]⟩⟩]
def ja16:List JA:=
 []
def gam16:List CF:=
 [⟨ctr48,G48⟩]
def an16:Anns:=
 ⟨gam16,ja16,[]⟩
def b16_1 (p:Prim):(LD×(LD×T4))→Option ((LD×(LD×T4))⊕(LD×Unit)):=
 fun a=>opt.run _ (
 opt.ask _ (p.cmp .lss a.2.2.2.1 a.2.2.1) (
 opt.need _ (p.rowOk a.2.1 (p.nat a.2.2.2.1) [ci,ci])<|
 opt.need _ (p.cmp .geq a.2.2.2.1 (0:Int))<|
 opt.need _ (p.and (p.leN (p.add 0 1) (p.len [[(D.int .i64 (p.rdI a.2.1 (p.nat a.2.2.2.1) 0)),(D.int .i64 (p.rdI a.2.1 (p.nat a.2.2.2.1) 1))]])) (p.and (p.leN (p.add 0 (p.len a.1)) (p.len a.1)) (p.and (p.leN 1 1) (p.leN (p.add (p.len a.1) 1) 1000000))))<|
 opt.need _ (p.eqN 0 0)<|
 opt.need _ (p.eqN (p.add (p.len a.1) 1) (p.len (p.app (p.cut a.1 0 (p.len a.1)) (p.cut [[(D.int .i64 (p.rdI a.2.1 (p.nat a.2.2.2.1) 0)),(D.int .i64 (p.rdI a.2.1 (p.nat a.2.2.2.1) 1))]] 0 1))))<|
 opt.ret _ (Sum.inl ((p.app (p.cut a.1 0 (p.len a.1)) (p.cut [[(D.int .i64 (p.rdI a.2.1 (p.nat a.2.2.2.1) 0)),(D.int .i64 (p.rdI a.2.1 (p.nat a.2.2.2.1) 1))]] 0 1)),(a.2.1,(a.2.2.1,((p.ar .add .i64 a.2.2.2.1 (1:Int)),())))))) (
 opt.need _ (p.eqN 0 0)<|
 opt.need _ (p.eqN (p.len a.1) (p.len a.1))<|
 opt.ret _ (Sum.inr (a.1,()))))
def g16 (it:It):(p:Prim)→(LD×(LD×Unit))→Option ((LD×T1)):=
 fun p x=>
 opt.alt T0 ((LD×(LD×(LD×T1)))) _ (g48 it p (x.1,(x.2.1,()))) (fun a=>
 opt.ask _ (p.cmp .neq a.1 (0:Int)) (
 opt.ret _ ([],(a.1,()))) (
 opt.no _ 41)) (fun b=>
 opt.bnd ((LD×(LD×(LD×T1)))) _ (some b) fun c=>
 opt.ask _ (p.cmp .neq c.2.2.2.1 (0:Int)) (
 opt.ret _ ([],(c.2.2.2.1,()))) (
 opt.bnd ((LD×Unit)) _ (
 it _ _ (b16_1 p) ([],(c.2.2.1,((p.ofNat (p.len c.2.2.1)),((0:Int),()))))) fun d=>
 opt.need _ (p.eqN 0 0)<|
 opt.need _ (p.eqN (p.len d.1) (p.len d.1))<|
 opt.ret _ (d.1,((0:Int),()))))
def G16:=g16 it0
theorem ok16:CtrOk PG ctr16 (G16 std):=okF (a:=an16) (l:=la16) (gC ok48 (gN)) (by kernel_rfl) fun _ _=>by kernel_rfl
def ctr62:Ctr:=
 ⟨62,[.agg [.list 2, .list 1], .agg [.list 2, .list 1]],[],[(.ret,⟨[(0, .tuple [.nilp, .nilp, .int .i64])],[],1⟩),(.ret,⟨[(0, .tuple [.nilp, .bptr 0 0, .int .i64])],[.box [.list 2, .list 1, .list 2]],1⟩),(.ret,⟨[(0, .tuple [.bptr 0 0, .nilp, .int .i64])],[.box [.list 2, .list 1, .list 2]],1⟩),(.ret,⟨[(0, .tuple [.bptr 0 0, .bptr 1 0, .int .i64])],[.box [.list 2, .list 1, .list 2], .box [.list 2, .list 1, .list 2]],1⟩)]⟩
def la62:List LA:=
 []
def ja62:List JA:=
 []
def gam62:List CF:=
 [⟨ctr48,G48⟩]
def an62:Anns:=
 ⟨gam62,ja62,[]⟩
def g62 (it:It):(p:Prim)→(LD×(LD×(LD×(LD×Unit))))→Option (((Int×Unit)⊕((LD×(LD×(LD×(Int×Unit))))⊕((LD×(LD×(LD×(Int×Unit))))⊕(LD×(LD×(LD×(LD×(LD×(LD×(Int×Unit))))))))))):=
 fun p x=>
 opt.alt T0 ((LD×(LD×(LD×T1)))) _ (g48 it p (x.1,(x.2.1,()))) (fun a=>
 opt.ask _ (p.cmp .neq a.1 (0:Int)) (
 opt.ret _ (Sum.inl (a.1,()))) (
 opt.alt T0 ((LD×(LD×(LD×T1)))) _ (g48 it p (x.2.2.1,(x.2.2.2.1,()))) (fun b=>
 opt.ret _ (Sum.inl (b.1,()))) (fun c=>
 opt.bnd ((LD×(LD×(LD×T1)))) _ (some c) fun d=>
 opt.ret _ (Sum.inr (Sum.inl (d.1,(d.2.1,(d.2.2.1,(d.2.2.2.1,()))))))))) (fun e=>
 opt.bnd ((LD×(LD×(LD×T1)))) _ (some e) fun f=>
 opt.ask _ (p.cmp .neq f.2.2.2.1 (0:Int)) (
 opt.ret _ (Sum.inl (f.2.2.2.1,()))) (
 opt.alt T0 ((LD×(LD×(LD×T1)))) _ (g48 it p (x.2.2.1,(x.2.2.2.1,()))) (fun g=>
 opt.ret _ (Sum.inr (Sum.inr (Sum.inl (f.1,(f.2.1,(f.2.2.1,(g.1,())))))))) (fun h=>
 opt.bnd ((LD×(LD×(LD×T1)))) _ (some h) fun i=>
 opt.ret _ (Sum.inr (Sum.inr (Sum.inr (f.1,(f.2.1,(f.2.2.1,(i.1,(i.2.1,(i.2.2.1,(i.2.2.2.1,())))))))))))))
def G62:=g62 it0
theorem ok62:CtrOk PG ctr62 (G62 std):=okF (a:=an62) (l:=la62) (gC ok48 (gN)) (by kernel_rfl) fun _ _=>by kernel_rfl
end Go.Am
end
section
namespace Go.Am
open M06
theorem back_ng {x:Pt} (h:x≠(0,0)):(backC x=false↔Pos x)∧(backC x=true↔Pos (ng x)):=back_pos h
theorem turn_bef {x y:Pt} (hx:x≠(0,0)) (hy:y≠(0,0)):turnC x y<0↔Bef x y:=by
 rw [turnC_neg]
 obtain ⟨a1,a2⟩:=back_ng hx
 obtain ⟨b1,b2⟩:=back_ng hy
 unfold Bef
 rw [←a1, ←a2, ←b1, ←b2]
 cases backC x<;>cases backC y<;>simp
theorem turn_same {x y:Pt} (hx:x≠(0,0)) (hy:y≠(0,0)):turnC x y=0↔Same x y:=by
 have e1:=turn_bef hx hy
 constructor
 ·intro h
  rcases dir_tri hx hy with k|k|k
  ·have:=e1.2 k; omega
  ·exact k
  ·
   exfalso
   obtain ⟨a1,a2⟩:=back_ng hx
   obtain ⟨b1,b2⟩:=back_ng hy
   unfold turnC cmpZ at h
   rcases k with k|k|k
   ·have i1:=a2.2 k.2
    have i2:=b1.2 k.1
    simp [i1,i2] at h
   ·have i1:=a1.2 k.2.1
    have i2:=b1.2 k.1
    have:=k.2.2
    simp only [crs] at this
    have q1:¬ (0<x.1*y.2 - x.2*y.1):=by have:=Int.mul_comm x.1 y.2; have:=Int.mul_comm x.2 y.1; omega
    have q2:(0:Int)>x.1*y.2 - x.2*y.1:=by have:=Int.mul_comm x.1 y.2; have:=Int.mul_comm x.2 y.1; omega
    rw [if_neg (by rw [i1,i2]; simp),if_neg (by rw [i1,i2]; simp),if_neg q1,if_pos q2] at h
    cases h
   ·have i1:=a2.2 k.2.1
    have i2:=b2.2 k.1
    have:=k.2.2
    simp only [crs] at this
    have q1:¬ (0<x.1*y.2 - x.2*y.1):=by have:=Int.mul_comm x.1 y.2; have:=Int.mul_comm x.2 y.1; omega
    have q2:(0:Int)>x.1*y.2 - x.2*y.1:=by have:=Int.mul_comm x.1 y.2; have:=Int.mul_comm x.2 y.1; omega
    rw [if_neg (by rw [i1,i2]; simp),if_neg (by rw [i1,i2]; simp),if_neg q1,if_pos q2] at h
    cases h
 ·intro h
  obtain ⟨a1,a2⟩:=back_ng hx
  obtain ⟨b1,b2⟩:=back_ng hy
  have hb:backC x=backC y:=by
   rcases pos_tri x hx with p|p
   ·rw [a1.2 p,b1.2 (pos_same h p)]
   ·rw [a2.2 p,b2.2 (pos_same (same_ng h) p)]
  have:=h.1
  simp only [crs] at this
  unfold turnC cmpZ
  rw [hb,this]
  cases backC y<;>simp
theorem G99_ok {x y:Pt} (hx:Small x) (hy:Small y):G99 std ([eP x,eP y],())=some ((ad x y).1,(ad x y).2,()):=by
 have inner:∀ (u v o1 o2 q1 q2 n i:Int) (L:List (List D)), -2097152≤o1→o1≤2097152→ -2097152≤o2→o2≤2097152→ -2097152≤q1→q1≤2097152→ -2097152≤q2→q2≤2097152→
   iter (b99_2 std) (u,v,o1,o2,L,n,i,q1,q2,(0:Int),())=some (u,v,o1+q1,o2+q2,L,n,i,()):=by
  intro u v o1 o2 q1 q2 n i L h1 h2 h3 h4 h5 h6 h7 h8
  have w1:IntKind.i64.wrap (o1+q1)=o1+q1:=by rw [wrap64]<;>omega
  have w2:IntKind.i64.wrap (o2+q2)=o2+q2:=by rw [wrap64]<;>omega
  have v1:IntKind.i64.wrap 1=1:=by decide
  have v2:IntKind.i64.wrap 2=2:=by decide
  have s0:b99_2 std (u,v,o1,o2,L,n,i,q1,q2,(0:Int),())=some (.inl (u,v,o1+q1,o2,L,n,i,q1,q2,(1:Int),())):=by
   simp [b99_2,stdS,stdL,std_ar_add,w1,v1]
  have s1:b99_2 std (u,v,o1+q1,o2,L,n,i,q1,q2,(1:Int),())=some (.inl (u,v,o1+q1,o2+q2,L,n,i,q1,q2,(2:Int),())):=by
   simp [b99_2,stdS,stdL,std_ar_add,w2,v2]
  have s2:b99_2 std (u,v,o1+q1,o2+q2,L,n,i,q1,q2,(2:Int),())=some (.inr (u,v,o1+q1,o2+q2,L,n,i,())):=by
   simp [b99_2,stdS,stdL]
  rw [iter_unfold,s0]
  simp only
  rw [iter_unfold,s1]
  simp only
  rw [iter_unfold,s2]
 obtain ⟨x1,x2,x3,x4⟩:=hx
 obtain ⟨y1,y2,y3,y4⟩:=hy
 have v1:IntKind.i64.wrap ((0:Int)+1)=1:=by decide
 have v2:IntKind.i64.wrap ((1:Int)+1)=2:=by decide
 have t0:c99_1 it0 std ((0:Int),(0:Int),(0:Int),(0:Int),[eP x,eP y],(2:Int),(0:Int),())=some (.inl ((0:Int),(0:Int),x.1,x.2,[eP x,eP y],(2:Int),(1:Int),())):=by
  have:=inner 0 0 0 0 x.1 x.2 2 0 [eP x,eP y] (by omega) (by omega) (by omega) (by omega) (by omega) (by omega) (by omega) (by omega)
  simp only [Int.zero_add] at this
  have e1:std.rdI [eP x,eP y] 0 0=x.1:=rfl
  have e2:std.rdI [eP x,eP y] 0 1=x.2:=rfl
  have c1:(0:Int)<2:=by omega
  simp only [c99_1,it0_eq,need_eq,ask_eq,ret_eq,bnd_eq,run_eq,std_lss,std_nat,Int.toNat_zero,e1,e2,this,Option.bind_some,std_ar_add,v1,c1,decide_true,if_true,std_rowOk]
  rfl
 have t1:c99_1 it0 std ((0:Int),(0:Int),x.1,x.2,[eP x,eP y],(2:Int),(1:Int),())=some (.inl ((0:Int),(0:Int),x.1+y.1,x.2+y.2,[eP x,eP y],(2:Int),(2:Int),())):=by
  have:=inner 0 0 x.1 x.2 y.1 y.2 2 1 [eP x,eP y] (by omega) (by omega) (by omega) (by omega) (by omega) (by omega) (by omega) (by omega)
  have e1:std.rdI [eP x,eP y] 1 0=y.1:=rfl
  have e2:std.rdI [eP x,eP y] 1 1=y.2:=rfl
  have e3:(1:Int).toNat=1:=rfl
  have c1:(1:Int)<2:=by omega
  simp only [c99_1,it0_eq,need_eq,ask_eq,ret_eq,bnd_eq,run_eq,std_lss,std_nat,e3,e1,e2,this,Option.bind_some,std_ar_add,v2,c1,decide_true,if_true,std_rowOk]
  rfl
 have t2:c99_1 it0 std ((0:Int),(0:Int),x.1+y.1,x.2+y.2,[eP x,eP y],(2:Int),(2:Int),())=some (.inr ((0:Int),(0:Int),x.1+y.1,x.2+y.2,())):=by
  have c1:¬ (2:Int)<2:=by omega
  simp only [c99_1,it0_eq,need_eq,ask_eq,ret_eq,bnd_eq,run_eq,std_lss,c1,decide_false,Bool.false_eq_true,if_false]
 unfold G99
 have e2:std.ofNat (std.len [eP x,eP y])=(2:Int):=rfl
 simp only [g99,it0_eq,e2,bnd_eq,ret_eq]
 rw [iter_unfold,t0]
 simp only
 rw [iter_unfold,t1]
 simp only
 rw [iter_unfold,t2]
 rfl
end Go.Am
end
section
namespace Go.Am
open M06
theorem ways_len:∀ l:List Pt,(M06.ways l).length=l.length - 1
 |[]=>rfl
 |[_]=>rfl
 |a::b::l=>by simp only [M06.ways,List.length_cons,ways_len (b::l)]; omega
theorem ways_get:∀ (l:List Pt) (i:Nat) (x y:Pt),l[i]?=some x→l[i+1]?=some y→(M06.ways l)[i]?=some (sb y x)
 |[],i,x,y,h,_=>by simp at h
 |[a],i,x,y,_,h=>by simp at h
 |a::b::l,0,x,y,h1,h2=>by
  simp at h1 h2; subst h1; subst h2; rfl
 |a::b::l,i+1,x,y,h1,h2=>by
  have:=ways_get (b::l) i x y (by simpa using h1) (by simpa using h2)
  simpa [M06.ways] using this
theorem wy_len {c:List Pt} (h:2≤c.length):(wy c).length=c.length:=by
 match c,h with
 |a::b::r,_=>simp [wy,ways_len]
theorem wy_len_le (c:List Pt):(wy c).length≤c.length:=by
 match c with
 |[]=>simp [wy]
 |[a]=>simp [wy]
 |a::b::r=>simp [wy,ways_len]
theorem wy_get {c:List Pt} {i:Nat} {x y:Pt} (h2:2≤c.length) (hx:c[i]?=some x) (hy:c[(i+1) % c.length]?=some y):(wy c)[i]?=some (sb y x):=by
 match c,h2 with
 |a::b::r,_=>
  have hi:i<(a::b::r).length:=(List.getElem?_eq_some_iff.1 hx).1
  refine ways_get _ i x y ?_ ?_
  ·rw [List.getElem?_append_left hi]; exact hx
  ·by_cases hl:i+1<(a::b::r).length
   ·rw [List.getElem?_append_left hl]
    rwa [Nat.mod_eq_of_lt hl] at hy
   ·have he:i+1=(a::b::r).length:=by omega
    rw [he,Nat.mod_self] at hy
    rw [List.getElem?_append_right (by omega),he]
    simp at hy⊢; exact hy
theorem cyc_two_ne {S c:List Pt} (h:Cyc S c) (h2:2≤c.length):∀ w∈wy c,w≠(0,0):=by
 match c,h2,h with
 |a::b::r,_,h=>exact (cyc_walk h).2.2.1
theorem mod_int {i n:Nat} (hn:0<n) (hi:i<1000000):IntKind.i64.wrap ((i:Int)+1)=((i+1:Nat):Int)∧(((i+1:Nat):Int).tmod (n:Int))=(((i+1) % n:Nat):Int):=by
 refine ⟨wrap_nat (by omega),?_⟩
 rw [Int.tmod_eq_emod_of_nonneg (by omega)]
 rfl
theorem sub_small {x y:Pt} (hx:Small x) (hy:Small y):IntKind.i64.wrap (x.1 - y.1)=(sb x y).1∧IntKind.i64.wrap (x.2 - y.2)=(sb x y).2:=by
 obtain ⟨x1,x2,x3,x4⟩:=hx
 obtain ⟨y1,y2,y3,y4⟩:=hy
 exact ⟨wrap64 _ (by omega) (by omega),wrap64 _ (by omega) (by omega)⟩
theorem ways_loop {S c:List Pt} (hc:Cyc S c) (hs:∀ x∈c,Small x) (hl:c.length≤1000) (o:List Pt) (ho:o.length≤1000) (Ls X Y:List (List D)) (n i:Int):
  iter (b80_2 std) (Ls,encP o,encP c,n,X,Y,i,encP c,(c.length:Int),(0:Int),())=some (.inl (Ls,encP (o++wy c),encP c,n,X,Y,i,()))∨
  iter (b80_2 std) (Ls,encP o,encP c,n,X,Y,i,encP c,(c.length:Int),(0:Int),())=some (.inr (Ls,encP (o++wy c),encP c,n,X,Y,i,())):=by
 by_cases h2:2≤c.length
 ·right
  have hnz:=cyc_two_ne hc h2
  have hwl:=wy_len h2
  have key:=iter_to (b:=b80_2 std) (fun (j:Nat)=>(Ls,encP (o++(wy c).take j),encP c,n,X,Y,i,encP c,(c.length:Int),(j:Int),())) (fun j=>j≤c.length) (fun j=>c.length - j) (fun _=>Sum.inr (Ls,encP (o++wy c),encP c,n,X,Y,i,())) (fun j hj=>by
   by_cases hlt:j<c.length
   ·left
    obtain ⟨x,hx⟩:=get_some hlt
    obtain ⟨y,hy⟩:=get_some (l:=c) (i:=(j+1) % c.length) (Nat.mod_lt _ (by omega))
    have hw:=wy_get h2 hx hy
    have hne:=hnz _ (List.mem_of_getElem? hw)
    obtain ⟨m1,m2⟩:=mod_int (i:=j) (n:=c.length) (by omega) (by omega)
    have gx:=encP_get hx
    have gy:=encP_get hy
    obtain ⟨d1,d2⟩:=sub_small (hs y (List.mem_of_getElem? hy)) (hs x (List.mem_of_getElem? hx))
    have c1:(j:Int)<(c.length:Int):=by omega
    have c2:(j:Int)≥0:=by omega
    have c3:¬ (c.length:Int)=0:=by omega
    have c4:(((j+1) % c.length:Nat):Int)≥0:=by omega
    have c5:(((j+1) % c.length:Nat):Int)<(c.length:Int):=by have:=Nat.mod_lt (j+1) (show 0<c.length by omega); omega
    have hol2:(o++(wy c).take (j+1)).length≤1000000:=by simp; omega
    have hol:(o++(wy c).take j).length+1≤1000000:=by simp; omega
    have htk:(encP (o++(wy c).take j)).take (o++(wy c).take j).length=encP (o++(wy c).take j):=by rw [List.take_of_length_le (by rw [encP_len]; omega)]
    have hap:encP (o++(wy c).take j)++[eP (sb y x)]=encP (o++(wy c).take (j+1)):=by
     rw [take_succ_some hw]; simp [encP]
    have hrow:[D.int IntKind.i64 (sb y x).1,D.int IntKind.i64 (sb y x).2]=eP (sb y x):=rfl
    have hal:(o++(wy c).take j).length+1=(o++(wy c).take (j+1)).length:=by rw [take_succ_some hw]; simp; omega
    have hne':¬ ((sb y x).1=0∧(sb y x).2=0):=fun e=>hne (Prod.ext e.1 e.2)
    refine ⟨j+1,?_,by omega,by omega,rfl⟩
    by_cases z1:(sb y x).1=0
    ·have z2:¬ (sb y x).2=0:=fun e=>hne' ⟨z1,e⟩
     simp only [b80_2,stdS,stdL,cells_eP,dI_eP0,dI_eP1,eP_eq,encP_set,encP_len,std_ar_add,std_ar_rem,std_ar_sub,m1,m2,gx,gy,d1,d2,c1,c2,c3,c4,c5,z1,z2,htk,hol2,List.drop_zero,List.take_succ_cons,List.take_zero,hap,hrow,hal,Nat.le_refl,not_false_eq_true]
     rw [←z1]
     simp only [stdS,stdL,cells_eP,dI_eP0,dI_eP1,eP_eq,encP_set,encP_len,hap,hrow,hal,hol2,Nat.le_refl]
    ·simp only [b80_2,stdS,stdL,cells_eP,dI_eP0,dI_eP1,eP_eq,encP_set,encP_len,std_ar_add,std_ar_rem,std_ar_sub,m1,m2,gx,gy,d1,d2,c1,c2,c3,c4,c5,z1,htk,hol2,List.drop_zero,List.take_succ_cons,List.take_zero,hap,hrow,hal,Nat.le_refl,not_false_eq_true]
   ·right
    have:j=c.length:=by omega
    subst this
    have hn:¬ ((c.length:Int)<(c.length:Int)):=by omega
    rw [←hwl,List.take_length,hwl]
    simp only [b80_2,stdS,stdL,hn]) 0 (Nat.zero_le _)
  simpa using key
 ·left
  have hc1:∃ x,c=[x]:=by
   match c,hc,h2 with
   |[x],_,_=>exact ⟨x,rfl⟩
   |a::b::r,_,h2=>exact absurd (by simp) h2
  obtain ⟨x,rfl⟩:=hc1
  ·have gx:=encP_get (l:=[x]) (i:=0) rfl
   obtain ⟨d1,d2⟩:=sub_small (hs x (by simp)) (hs x (by simp))
   have z1:(sb x x).1=0:=by simp [sb]
   have z2:(sb x x).2=0:=by simp [sb]
   rw [z1] at d1
   rw [z2] at d2
   have w1:IntKind.i64.wrap 1=1:=by decide
   have t1:(1:Int).tmod 1=0:=by decide
   rw [iter_unfold]
   have:b80_2 std (Ls,encP o,encP [x],n,X,Y,i,encP [x],(([x]:List Pt).length:Int),(0:Int),())=some (.inr (.inl (Ls,encP (o++wy [x]),encP [x],n,X,Y,i,()))):=by
    have e:wy [x]=[]:=rfl
    rw [e,List.append_nil]
    have c1:(0:Int)<((0+1:Nat):Int):=by omega
    have l1:((0+1:Nat):Int)=1:=rfl
    simp only [b80_2,stdS,stdL,cells_eP,dI_eP0,dI_eP1,eP_eq,encP_set,encP_len,std_ar_add,std_ar_rem,std_ar_sub,l1,Int.zero_add,w1,t1,gx,d1,d2,Int.toNat_zero,ge_iff_le,Int.le_refl,show (0:Int)<1 by decide,show ¬ (1:Int)=0 by decide,not_false_eq_true]
   rw [this]
theorem small_box {x:Pt} (h:inBox (-5000) 5000 x):Small x:=by
 obtain ⟨h1,h2,h3,h4⟩:=h
 exact ⟨by omega,by omega,by omega,by omega⟩
theorem sub_box {x y:Pt} (h:inBox (-5000) 5000 x) (k:inBox (-5000) 5000 y):inBox (-10000) 10000 (sb x y):=by
 obtain ⟨h1,h2,h3,h4⟩:=h
 obtain ⟨k1,k2,k3,k4⟩:=k
 refine ⟨?_,?_,?_,?_⟩<;>simp only [sb]<;>omega
theorem ways_box:∀ {l:List Pt},(∀ x∈l,inBox (-5000) 5000 x)→∀ w∈M06.ways l,inBox (-10000) 10000 w
 |[],_,w,hw=>by simp [M06.ways] at hw
 |[_],_,w,hw=>by simp [M06.ways] at hw
 |a::b::l,h,w,hw=>by
  rcases List.mem_cons.1 hw with rfl|hw
  ·exact sub_box (h b (by simp)) (h a (by simp))
  ·exact ways_box (l:=b::l) (fun x hx=>h x (List.mem_cons_of_mem _ hx)) w hw
theorem wy_box {c:List Pt} (h:∀ x∈c,inBox (-5000) 5000 x):∀ w∈wy c,inBox (-10000) 10000 w:=by
 match c,h with
 |[],_=>simp [wy]
 |[a],_=>simp [wy]
 |a::b::r,h=>
  refine ways_box (l:=a::b::r++[a]) fun x hx=>?_
  rcases List.mem_append.1 hx with hx|hx
  ·exact h x hx
  ·simp at hx; subst hx; exact h _ (by simp)
theorem sumL_box:∀ {l:List Pt},(∀ w∈l,inBox (-10000) 10000 w)→inBox (-(10000*(l.length:Int))) (10000*(l.length:Int)) (sumL l)
 |[],_=>by simp [sumL,inBox]
 |w::l,h=>by
  have h1:=h w (by simp)
  have h2:=sumL_box (l:=l) (fun x hx=>h x (List.mem_cons_of_mem _ hx))
  rw [sumL_cons]
  simp only [inBox,ad,List.length_cons] at*
  omega
theorem grp_len:∀ (now:Pt) (ws:List Pt),(grp now ws).length≤ws.length
 |_,[]=>by simp [grp]
 |_,[w]=>by simp [grp]
 |now,w::w'::ws=>by
  rw [grp]
  split
  ·have:=grp_len (ad now w) (w'::ws); simp at this⊢; omega
  ·have:=grp_len (ad now w) (w'::ws); simp at this⊢; omega
theorem wsnz {S a:List Pt} (h:Cyc S a):∀ w∈wy a,w≠(0,0):=by
 match a,h with
 |[x],_=>simp [wy]
 |x::y::r,h=>exact (cyc_walk h).2.2.1
theorem G80_ok {A B a b:List Pt} (hA:Cyc A a) (hB:Cyc B b) (ka:∀ x∈a,inBox (-5000) 5000 x) (kb:∀ x∈b,inBox (-5000) 5000 x) (la:a.length≤60) (lb:b.length≤30):
  ∃ c,G80 std (encP a,encP b,())=some (encP c,())∧c.length≤a.length+b.length∧∀ T,(∀ z,z∈T↔∃ x∈A,∃ y∈B,z=ad x y)→Cyc T c:=by
 have sa:∀ x∈a,Small x:=fun x hx=>small_box (ka x hx)
 have sb':∀ x∈b,Small x:=fun x hx=>small_box (kb x hx)
 have hbox:∀ w∈wy a++wy b,inBox (-10000) 10000 w:=fun w hw=>by
  rcases List.mem_append.1 hw with h|h
  ·exact wy_box ka w h
  ·exact wy_box kb w h
 have hnz:∀ w∈wy a++wy b,w≠(0,0):=fun w hw=>by
  rcases List.mem_append.1 hw with h|h
  ·exact wsnz hA w h
  ·exact wsnz hB w h
 have hsm:∀ {w:Pt},inBox (-10000) 10000 w→Small w:=fun {w} h=>by
  obtain ⟨h1,h2,h3,h4⟩:=h
  exact ⟨by omega,by omega,by omega,by omega⟩
 have hlen:(wy a++wy b).length≤a.length+b.length:=by
  have:=wy_len_le a; have:=wy_len_le b; simp; omega
 obtain ⟨ws,hg97,hp,hs⟩:=sort_t (wy a++wy b) (fun w hw=>⟨hsm (hbox w hw),hnz w hw⟩) (by omega)
 have hwl:ws.length≤a.length+b.length:=by rw [hp.length_eq]; exact hlen
 have wbox:∀ w∈ws,inBox (-10000) 10000 w:=fun w hw=>hbox w (hp.mem_iff.1 hw)
 have wnz:∀ w∈ws,w≠(0,0):=fun w hw=>hnz w (hp.mem_iff.1 hw)
 have hs':ws.Pairwise (fun u v=>¬ Bef v u):=hs.imp_of_mem fun {u v} hu hv h hb=>h ((turn_bef (wnz v hv) (wnz u hu)).2 hb)
 generalize hs0:ad (hd0 a) (hd0 b)=s0
 have ha0:a[0]?=some (hd0 a):=by
  match a,hA with
  |x::r,_=>rfl
 have hb0:b[0]?=some (hd0 b):=by
  match b,hB with
  |x::r,_=>rfl
 have ka0:=ka _ (List.mem_of_getElem? ha0)
 have kb0:=kb _ (List.mem_of_getElem? hb0)
 have hs0b:inBox (-10000) 10000 s0:=by
  rw [←hs0]
  simp only [inBox,ad] at*; omega
 have hnowbox:∀ i,Small (ad s0 (sumL (ws.take i))):=fun i=>by
  have h1:=sumL_box (l:=ws.take i) (fun w hw=>wbox w (List.mem_of_mem_take hw))
  have h2:(ws.take i).length≤90:=by simp; omega
  simp only [inBox,ad,Small] at*; omega
 refine ⟨mink s0 ws,?_,?_,fun T hT=>?_⟩
 rotate_left
 ·have h1:=grp_len s0 ws
  have ha1:1≤a.length:=by have:=(List.getElem?_eq_some_iff.1 ha0).1; omega
  unfold mink
  split
  ·simp; omega
  ·simp only [List.length_cons] at*; omega
 ·rw [←hs0]
  exact mink_cyc hA hB hT hp hs'
 have hways:iter (c80_1 it0 std) ([[D.list false 2 (encP a)],[D.list false 2 (encP b)]],[],encP a,encP b,(2:Int),(0:Int),())=some (encP (wy a++wy b),encP a,encP b,()):=by
  generalize hL:[[D.list false 2 (encP a)],[D.list false 2 (encP b)]]=L
  have r0:std.rdL L 0 0=encP a:=by subst hL; rfl
  have r1:std.rdL L 1 0=encP b:=by subst hL; rfl
  have k0:std.rowOk L 0 [CK.list 2]=true:=by subst hL; rfl
  have k1:std.rowOk L 1 [CK.list 2]=true:=by subst hL; rfl
  have hl2:L.length=2:=by subst hL; rfl
  have e1:(0:Int).toNat=0:=rfl
  have e2:(1:Int).toNat=1:=rfl
  have v1:IntKind.i64.wrap ((0:Int)+1)=1:=by decide
  have v2:IntKind.i64.wrap ((1:Int)+1)=2:=by decide
  have v1':IntKind.i64.wrap 1=1:=by decide
  have v2':IntKind.i64.wrap 2=2:=by decide
  have t0:c80_1 it0 std (L,[],encP a,encP b,(2:Int),(0:Int),())=some (.inl (L,encP (wy a),encP a,encP b,(2:Int),(1:Int),())):=by
   have hw:=ways_loop hA sa (by omega) [] (by simp) L (encP b) (encP a) 2 0
   have en:encP []=[]:=rfl
   rw [en] at hw
   simp only [List.nil_append] at hw
   rcases hw with hw|hw
   ·simp only [c80_1,it0_eq,need_eq,ask_eq,ret_eq,bnd_eq,run_eq,alt_eq,std_lss,std_geq,std_nat,std_add,std_len,std_ofNat,e1,Nat.zero_add,r0,k0,hl2,encP_len,hw,Option.bind_some,Sum.elim_inl,Sum.elim_inr,std_ar_add,v1,std_eqN,bif_eq]
    simp [v1']
   ·simp only [c80_1,it0_eq,need_eq,ask_eq,ret_eq,bnd_eq,run_eq,alt_eq,std_lss,std_geq,std_nat,std_add,std_len,std_ofNat,e1,Nat.zero_add,r0,k0,hl2,encP_len,hw,Option.bind_some,Sum.elim_inl,Sum.elim_inr,std_ar_add,v1,std_eqN,bif_eq]
    simp [v1']
  have t1:c80_1 it0 std (L,encP (wy a),encP a,encP b,(2:Int),(1:Int),())=some (.inl (L,encP (wy a++wy b),encP a,encP b,(2:Int),(2:Int),())):=by
   have hw:=ways_loop hB sb' (by omega) (wy a) (by have:=wy_len_le a; omega) L (encP b) (encP a) 2 1
   rcases hw with hw|hw
   ·simp only [c80_1,it0_eq,need_eq,ask_eq,ret_eq,bnd_eq,run_eq,alt_eq,std_lss,std_geq,std_nat,std_add,std_len,std_ofNat,e2,Nat.zero_add,r1,k1,hl2,encP_len,hw,Option.bind_some,Sum.elim_inl,Sum.elim_inr,std_ar_add,v2,std_eqN,bif_eq]
    simp [v2']
   ·simp only [c80_1,it0_eq,need_eq,ask_eq,ret_eq,bnd_eq,run_eq,alt_eq,std_lss,std_geq,std_nat,std_add,std_len,std_ofNat,e2,Nat.zero_add,r1,k1,hl2,encP_len,hw,Option.bind_some,Sum.elim_inl,Sum.elim_inr,std_ar_add,v2,std_eqN,bif_eq]
    simp [v2']
  have t2:c80_1 it0 std (L,encP (wy a++wy b),encP a,encP b,(2:Int),(2:Int),())=some (.inr (encP (wy a++wy b),encP a,encP b,())):=by
   have c1:¬ (2:Int)<2:=by omega
   simp only [c80_1,stdS,stdL,c1]
  rw [iter_unfold,t0]
  simp only
  rw [iter_unfold,t1]
  simp only
  rw [iter_unfold,t2]
 have h99:=G99_ok (small_box ka0) (small_box kb0)
 rw [hs0] at h99
 unfold G99 at h99
 have hgrp:=iter_to (b:=c80_3 it0 std) (fun (s:List Pt×Nat)=>(encP s.1,encP ws,(ad s0 (sumL (ws.take s.2))).1,(ad s0 (sumL (ws.take s.2))).2,(0:Nat),s.1.length,(ws.length:Int),(s.2:Int),()))
  (fun s=>s.2≤ws.length∧s.1.length≤s.2+1) (fun s=>ws.length - s.2) (fun s=>(encP (s.1++grp (ad s0 (sumL (ws.take s.2))) (ws.drop s.2)),(0:Nat),(s.1++grp (ad s0 (sumL (ws.take s.2))) (ws.drop s.2)).length,())) (by
  rintro ⟨dn,i⟩ ⟨hi,hdn⟩
  simp only at hi hdn⊢
  by_cases hlt:i<ws.length
  ·left
   obtain ⟨w,hw⟩:=get_some hlt
   have hww:=List.mem_of_getElem? hw
   have gw:=encP_get hw
   have e9:=G99_ok (hnowbox i) (hsm (wbox w hww))
   have hnow:ad (ad s0 (sumL (ws.take i))) w=ad s0 (sumL (ws.take (i+1))):=by
    rw [take_succ_some hw,sumL_append,sumL_cons,sumL_nil,ad_zero,ad_assoc]
   rw [hnow] at e9
   unfold G99 at e9
   have hd:=drop_get hw
   have c1:(i:Int)<(ws.length:Int):=by omega
   have c2:(i:Int)≥0:=by omega
   have hwr:=wrap_nat (i:=i) (by omega)
   have htk:(encP dn).take dn.length=encP dn:=by rw [List.take_of_length_le (by rw [encP_len]; omega)]
   have hrow:∀ p:Pt,[D.int IntKind.i64 p.1,D.int IntKind.i64 p.2]=eP p:=fun _=>rfl
   have hap:∀ p:Pt,encP dn++[eP p]=encP (dn++[p]):=fun p=>by simp [encP]
   have hdl:dn.length≤1000:=by omega
   have hdl1:dn.length+1≤1000000:=by omega
   have hal:∀ p:Pt,dn.length+1=(dn++[p]).length:=fun p=>by simp
   by_cases hl:i+1<ws.length
   ·obtain ⟨w',hw'⟩:=get_some hl
    have hww':=List.mem_of_getElem? hw'
    have gw':=encP_get hw'
    have hd':=drop_get hw'
    have c3:((i+1:Nat):Int)<(ws.length:Int):=by omega
    have c4:((i+1:Nat):Int)≥0:=by omega
    have e8:=G98_ok (hsm (wbox w hww)) (hsm (wbox w' hww'))
    by_cases hsame:Same w w'
    ·refine ⟨(dn,i+1),?_,⟨by simp only; omega,by simp only; omega⟩,by simp only; omega,?_⟩
     ·have ht:=(turn_same (wnz w hww) (wnz w' hww')).2 hsame
      simp only [c80_3,it0_eq,stdS,stdL,cells_eP,dI_eP0,dI_eP1,eP_eq,encP_set,encP_len,std_ar_add,hwr,c1,c2,c3,c4,gw,gw',e8,ht,Int.zero_add,hrow,List.take_succ_cons,List.take_zero,List.drop_zero,Nat.le_refl,e9]
     ·simp only [hd,hd']
      rw [grp,if_pos hsame,hnow, ←hd']
    ·refine ⟨(dn++[ad s0 (sumL (ws.take (i+1)))],i+1),?_,⟨by simp only; omega,by simp; omega⟩,by simp only; omega,?_⟩
     ·have ht:¬ turnC w w'=0:=fun e=>hsame ((turn_same (wnz w hww) (wnz w' hww')).1 e)
      have h1:=hap (ad s0 (sumL (ws.take (i+1))))
      have h2:=hal (ad s0 (sumL (ws.take (i+1))))
      simp only [c80_3,it0_eq,stdS,stdL,cells_eP,dI_eP0,dI_eP1,eP_eq,encP_set,encP_len,std_ar_add,hwr,c1,c2,c3,c4,gw,gw',e8,ht,Int.zero_add,hrow,List.take_succ_cons,List.take_zero,List.drop_zero,Nat.le_refl,e9,htk,hdl1,h1,h2]
      simp only [List.length_append,List.length_cons,List.length_nil,Nat.zero_add,hdl1,Nat.le_refl,if_true,Option.bind_some,hwr]
     ·simp only [hd,hd']
      rw [grp,if_neg hsame,hnow, ←hd',List.append_assoc]; rfl
   ·have hie:i+1=ws.length:=by omega
    have c3:¬ ((i+1:Nat):Int)<(ws.length:Int):=by omega
    refine ⟨(dn++[ad s0 (sumL (ws.take (i+1)))],i+1),?_,⟨by simp only; omega,by simp; omega⟩,by simp only; omega,?_⟩
    ·have h1:=hap (ad s0 (sumL (ws.take (i+1))))
     have h2:=hal (ad s0 (sumL (ws.take (i+1))))
     simp only [c80_3,it0_eq,stdS,stdL,cells_eP,dI_eP0,dI_eP1,eP_eq,encP_set,encP_len,std_ar_add,hwr,c1,c2,c3,gw,Int.zero_add,hrow,List.take_succ_cons,List.take_zero,List.drop_zero,Nat.le_refl,e9,htk,hdl1,h1,h2]
     simp only [List.length_append,List.length_cons,List.length_nil,Nat.zero_add,hdl1,Nat.le_refl,if_true,Option.bind_some,hwr]
    ·have hdn':ws.drop (i+1)=[]:=by rw [hie]; simp
     simp only [hd,hdn',grp,hnow,List.append_nil]
  ·right
   have:i=ws.length:=by omega
   subst this
   have hn:¬ ((ws.length:Int)<(ws.length:Int)):=by omega
   simp only [c80_3,stdS,stdL,hn,List.drop_length,grp,List.append_nil]) ([s0],0) ⟨Nat.zero_le _,by simp⟩
 simp only [List.take_zero,List.drop_zero,sumL_nil,ad_zero] at hgrp
 unfold G80
 have hg97:g97t it0 std (encP (wy a++wy b),())=some (encP ws,()):=hg97
 have e0:std.ofNat 2=(2:Int):=rfl
 have g0a:=encP_get ha0
 have g0b:=encP_get hb0
 have z0:(0:Int).toNat=0:=rfl
 have hrow:∀ p:Pt,[D.int IntKind.i64 p.1,D.int IntKind.i64 p.2]=eP p:=fun _=>rfl
 have hpl:(wy a++wy b).length=ws.length:=hp.length_eq.symm
 have hs0e:[eP s0]=encP [s0]:=rfl
 have hl1:([s0]:List Pt).length=1:=rfl
 have k0:((0:Nat):Int)=0:=rfl
 simp only [k0,hl1] at hgrp
 simp only [g80,it0_eq,e0,hways,z0,hg97,stdS,stdL,cells_eP,dI_eP0,dI_eP1,eP_eq,encP_set,encP_len,g0a,g0b,hrow,List.take_succ_cons,List.take_zero,List.drop_zero,Nat.le_refl,h99,hpl,hs0e,hgrp,List.singleton_append,List.length_cons]
 have hgle:=grp_len s0 ws
 generalize hgl:(grp s0 ws).length=gl at hgle
 have hm:mink s0 ws=if 1<gl+1 then (s0::grp s0 ws).dropLast else s0::grp s0 ws:=by rw [mink,List.length_cons,hgl]
 rw [hm]
 by_cases h1:1<gl+1
 ·have c1:((gl+1:Nat):Int)>1:=by omega
  have v1:IntKind.i64.wrap (((gl+1:Nat):Int) - 1)=(gl:Int):=by rw [wrap64]<;>omega
  have c2:(0:Int)≤(gl:Int):=by omega
  have c3:(gl:Int)≤((gl+1:Nat):Int):=by omega
  have c4:gl≤gl+1:=by omega
  simp only [stdS,stdL,cells_eP,dI_eP0,dI_eP1,eP_eq,encP_set,encP_len,c1,std_ar_sub,v1,c2,c3,ge_iff_le,Int.le_refl,Int.toNat_zero,Nat.sub_zero,Nat.add_zero,List.length_cons,hgl,c4,List.drop_zero,h1]
  rw [List.dropLast_eq_take]
  simp [encP,hgl]
 ·have c1:¬ ((gl+1:Nat):Int)>1:=by omega
  simp only [stdS,stdL,cells_eP,dI_eP0,dI_eP1,eP_eq,encP_set,encP_len,c1,List.length_cons,hgl,Nat.le_refl,List.drop_zero,h1]
  rw [List.take_of_length_le (by rw [encP_len]; simp [hgl])]
end Go.Am
end
section
namespace M06
theorem pth_nodup {S:List Pt} {e:Pt}:∀ {l:List Pt} {a:Pt},Pth S (a::l++[e])→e∉l→l.Nodup
 |[],_,_,_=> .nil
 |b::l,a,h,hn=>by
  have ih:=pth_nodup (l:=l) (a:=b) h.2 (fun x=>hn (List.mem_cons_of_mem _ x))
  refine List.nodup_cons.2 ⟨fun hb=>?_,ih⟩
  obtain ⟨l2,l3,rfl⟩:=List.append_of_mem hb
  have tl:∀ (u v:List Pt),Pth S (u++v)→Pth S v:=by
   intro u
   induction u with
   |nil=>intro v h; exact h
   |cons x u ih=>intro v h; exact ih v h.tail
  have h1:Pth S (b::(l2++b::l3)++[e]):=h.2
  have h2:Pth S (b::l3++[e]):=by
   refine tl (b::l2) _ ?_
   have:b::(l2++b::l3)++[e]=(b::l2)++(b::l3++[e]):=by simp
   rwa [this] at h1
  have:=pth_unique h1 h2 (fun x=>hn (List.mem_cons_of_mem _ x)) (fun x=>hn (List.mem_cons_of_mem _ (by simp [x])))
  have:=congrArg List.length this
  simp at this
  omega
theorem cyc_nodup {S c:List Pt} (h:Cyc S c):c.Nodup:=by
 match c,h with
 |a::r,h=>
  rcases h.2.2 with ⟨hr,_⟩|⟨_,hp,hn⟩
  ·subst hr; simp
  ·exact List.nodup_cons.2 ⟨hn,pth_nodup hp hn⟩
theorem nodup_len {α:Type} [DecidableEq α]:∀ {l m:List α},l.Nodup→(∀ x∈l,x∈m)→l.length≤m.length
 |[],m,_,_=>by simp
 |a::l,m,h,hs=>by
  have h1:=List.nodup_cons.1 h
  have:=nodup_len (l:=l) (m:=m.erase a) h1.2 (fun x hx=>by
   refine (List.mem_erase_of_ne ?_).2 (hs x (List.mem_cons_of_mem _ hx))
   rintro rfl; exact h1.1 hx)
  have ha:a∈m:=hs a (by simp)
  rw [List.length_erase_of_mem ha] at this
  have:0<m.length:=List.length_pos_of_mem ha
  simp only [List.length_cons]; omega
theorem cyc_len {S c:List Pt} (h:Cyc S c):c.length≤S.length:=nodup_len (cyc_nodup h) (cyc_mem h)
noncomputable def corn (S:List Pt):List Pt:=Classical.epsilon (Cyc S)
theorem corn_spec {S:List Pt} (h:S≠[]):Cyc S (corn S):=by
 obtain ⟨c,hc,_⟩:=cyc_exists h
 exact Classical.epsilon_spec ⟨c,hc⟩
theorem corn_eq {S c:List Pt} (h:Cyc S c):corn S=c:=cyc_unique (corn_spec (cyc_ne h)) h
def sums2 (A B:List Pt):List Pt:=A.flatMap fun x=>B.map (ad x)
theorem mem_sums2 {A B:List Pt} (z:Pt):z∈sums2 A B↔∃ x∈A,∃ y∈B,z=ad x y:=by
 simp only [sums2,List.mem_flatMap,List.mem_map]
 exact ⟨fun ⟨x,hx,y,hy,e⟩=>⟨x,hx,y,hy,e.symm⟩,fun ⟨x,hx,y,hy,e⟩=>⟨x,hx,y,hy,e.symm⟩⟩
theorem sums2_ne {A B:List Pt} (hA:A≠[]) (hB:B≠[]):sums2 A B≠[]:=by
 match A,B,hA,hB with
 |a::A,b::B,_,_=>intro h; have:=(mem_sums2 (A:=a::A) (B:=b::B) (ad a b)).2 ⟨a,by simp,b,by simp,rfl⟩; rw [h] at this; simp at this
def allS (l:List Pt) (hs:List (List Pt)):List Pt:=hs.foldl sums2 l
theorem allS_snoc (l:List Pt) (hs:List (List Pt)) (h:List Pt):allS l (hs++[h])=sums2 (allS l hs) h:=by simp [allS,List.foldl_append]
theorem allS_ne {l:List Pt} {hs:List (List Pt)} (hl:l≠[]) (hh:∀ h∈hs,h≠[]):allS l hs≠[]:=by
 induction hs generalizing l with
 |nil=>exact hl
 |cons h hs ih=>exact ih (sums2_ne hl (hh h (by simp))) (fun x hx=>hh x (List.mem_cons_of_mem _ hx))
end M06
end
section
namespace Go.Am
open M06
structure Fine (l:List Pt) (hs:List (List Pt)):Prop where
 many:manyP l
 few:hs.length≤4
 manyH:∀ h∈hs,manyP h
 box:∀ p∈l,inBox 0 1000 p
 boxH:∀ h∈hs,∀ p∈h,inBox (-1000) 1000 p
theorem chk_fine {l:List Pt} {hs:List (List Pt)}:chkG l hs=0↔Fine l hs:=by
 unfold chkG
 constructor
 ·intro h
  split at h
  ·cases h
  ·rename_i h1
   split at h
   ·cases h
   ·rename_i h2
    simp only [not_or,Classical.not_not,not_exists,not_and] at h1 h2
    exact ⟨h1.1,by omega,fun x hx=>h1.2.2 x hx,h2.1,fun x hx=>h2.2 x hx⟩
 ·intro h
  rw [if_neg,if_neg]
  ·rintro (k|⟨x,hx,k⟩)
   ·exact k h.box
   ·exact k (h.boxH x hx)
  ·rintro (k|k|⟨x,hx,k⟩)
   ·exact k h.many
   ·have:=h.few; omega
   ·exact k (h.manyH x hx)
theorem Fine.ne {l:List Pt} {hs:List (List Pt)} (h:Fine l hs):l≠[]:=by
 rintro rfl; have:=h.many.1; simp at this
theorem Fine.neH {l:List Pt} {hs:List (List Pt)} (h:Fine l hs):∀ x∈hs,x≠[]:=by
 rintro x hx rfl; have:=(h.manyH [] hx).1; simp at this
theorem Fine.allNe {l:List Pt} {hs:List (List Pt)} (h:Fine l hs):allS l hs≠[]:=allS_ne h.ne h.neH
theorem allS_box {l:List Pt} (hl:∀ p∈l,inBox (-1000) 1000 p):∀ {hs:List (List Pt)},(∀ h∈hs,∀ p∈h,inBox (-1000) 1000 p)→
    ∀ p∈allS l hs,inBox (-(1000*((hs.length:Int)+1))) (1000*((hs.length:Int)+1)) p:=by
  have main:∀ (n:Nat) (hs:List (List Pt)),hs.length=n→(∀ h∈hs,∀ p∈h,inBox (-1000) 1000 p)→∀ p∈allS l hs,inBox (-(1000*((hs.length:Int)+1))) (1000*((hs.length:Int)+1)) p:=by
   intro n
   induction n with
   |zero=>intro hs h0 _ p hp; rw [List.length_eq_zero_iff.1 h0] at hp⊢; simpa using hl p hp
   |succ n ih=>
    intro hs hn hh p hp
    rcases List.eq_nil_or_concat hs with rfl|⟨hs,h,rfl⟩
    · simp at hn
    rw [List.concat_eq_append] at*
    have ih:=ih hs (by simpa using hn)
    rw [allS_snoc,mem_sums2] at hp
    obtain ⟨x,hx,y,hy,rfl⟩:=hp
    have h1:=ih (fun h hm=>hh h (List.mem_append_left _ hm)) x hx
    have h2:=hh h (by simp) y hy
    simp only [inBox,ad,List.length_append,List.length_cons,List.length_nil] at*
    omega
  intro hs
  exact main _ hs rfl
theorem Fine.take {l:List Pt} {hs:List (List Pt)} (h:Fine l hs) (i:Nat):Fine l (hs.take i):=
 ⟨h.many,by have:=h.few; simp; omega,fun x hx=>h.manyH x (List.mem_of_mem_take hx),h.box,fun x hx=>h.boxH x (List.mem_of_mem_take hx)⟩
theorem Fine.boxA {l:List Pt} {hs:List (List Pt)} (h:Fine l hs):∀ p∈allS l hs,inBox (-5000) 5000 p:=by
 intro p hp
 have:=allS_box (l:=l) (fun p hp=>by obtain ⟨a,b,c,d⟩:=h.box p hp; exact ⟨by omega,by omega,by omega,by omega⟩) h.boxH p hp
 have h4:=h.few
 simp only [inBox] at*; omega
theorem Fine.cyc {l:List Pt} {hs:List (List Pt)} (h:Fine l hs):Cyc (allS l hs) (corn (allS l hs)):=corn_spec h.allNe
theorem Fine.cbox {l:List Pt} {hs:List (List Pt)} (h:Fine l hs):∀ p∈corn (allS l hs),inBox (-5000) 5000 p:=fun p hp=>h.boxA p (cyc_mem h.cyc p hp)
theorem small_box' {x:Pt} {k:Int} (hk:k≤10000) (h:inBox (-k) k x):Small x:=by
 obtain ⟨h1,h2,h3,h4⟩:=h
 exact ⟨by omega,by omega,by omega,by omega⟩
theorem encH_get {hs:List (List Pt)} {i:Nat} {h:List Pt} (hh:hs[i]?=some h):(encH hs)[i]?=some (eH h):=by simp [encH,hh]
theorem encH_len (hs:List (List Pt)):(encH hs).length=hs.length:=by simp [encH]
theorem take_append_one {hs:List (List Pt)} {i:Nat} {h:List Pt} (hh:hs[i]?=some h):hs.take (i+1)=hs.take i++[h]:=by
 rw [List.take_add_one,hh]; rfl
theorem corners_loop {l:List Pt} {hs:List (List Pt)} (hf:Fine l hs):
  iter (c48_1 it0 std) (encP l,encH hs,encP (corn l),encH hs,(hs.length:Int),(0:Int),())=some (encP l,encH hs,encP (corn (allS l hs)),())∧(corn (allS l hs)).length≤60:=by
 have key:=iter_ev (b:=c48_1 it0 std) (fun (i:Nat)=>(encP l,encH hs,encP (corn (allS l (hs.take i))),encH hs,(hs.length:Int),(i:Int),())) (fun i=>i≤hs.length∧(corn (allS l (hs.take i))).length≤12*(i+1)) (fun i=>hs.length - i) (fun r=>r=(encP l,encH hs,encP (corn (allS l hs)),())∧(corn (allS l hs)).length≤60) (fun i ⟨hi,hcl⟩=>by
  by_cases hlt:i<hs.length
  ·left
   obtain ⟨h,hh⟩:=get_some hlt
   have hm:=List.mem_of_getElem? hh
   have gh:=encH_get hh
   have h4:=hf.few
   have hmany:=hf.manyH h hm
   obtain ⟨b,hb1,hb2⟩:=G59_ok (l:=h) hmany.1 hmany.2 (fun x hx=>small_box' (k:=1000) (by omega) (hf.boxH h hm x hx))
   have h60:=G60_ok (l:=h) (by have:=hmany.2; omega)
   have hbl:=cyc_len hb2
   have hbb:∀ x∈b,inBox (-5000) 5000 x:=fun x hx=>by
    obtain ⟨a1,a2,a3,a4⟩:=hf.boxH h hm x (cyc_mem hb2 x hx)
    exact ⟨by omega,by omega,by omega,by omega⟩
   obtain ⟨c,hc1,hc2,hc3⟩:=G80_ok (hf.take i).cyc hb2 (hf.take i).cbox hbb (by omega) (by have:=hmany.2; omega)
   have e1:allS l (hs.take (i+1))=sums2 (allS l (hs.take i)) h:=by rw [take_append_one hh,allS_snoc]
   have hc:=corn_eq (hc3 _ mem_sums2)
   have c1:(i:Int)<(hs.length:Int):=by omega
   have c2:(i:Int)≥0:=by omega
   have hw:=wrap_nat (i:=i) (by omega)
   refine ⟨i+1,?_,⟨by omega,?_⟩,by omega⟩
   ·rw [e1,hc]
    have hb1':g59 it0 std (encP h,())=some (encP b,()):=hb1
    have h60':g60 it0 std (encP h,())=some (encP h,()):=h60
    have hc1':g80 it0 std (encP (corn (allS l (hs.take i))),encP b,())=some (encP c,()):=hc1
    simp only [c48_1,it0_eq,stdS,stdL,dL_eH,cells_eH,c1,c2,std_ar_add,hw,gh,h60',hb1',hc1']
   ·rw [e1,hc]
    have:=hmany.2
    omega
  ·right
   have:i=hs.length:=by omega
   subst this
   have hn:¬ ((hs.length:Int)<(hs.length:Int)):=by omega
   refine ⟨_,?_,rfl,?_⟩
   ·simp only [c48_1,stdS,stdL,hn,List.take_length]
   ·have:=hf.few
    rw [List.take_length] at hcl; omega) 0 ⟨Nat.zero_le _,by
   simp only [List.take_zero]
   have:=cyc_len (corn_spec hf.ne)
   have:=hf.many.2
   show (corn l).length≤_
   omega⟩
 obtain ⟨r,h1,h2,h3⟩:=key
 subst h2
 exact ⟨h1,h3⟩
theorem G48_bad {l:List Pt} {hs:List (List Pt)} (h:chkG l hs≠0):G48 std (encP l,encH hs,())=some (.inl (chkG l hs,())):=by
 unfold G48
 have h18:g18 it0 std (encP l,encH hs,())=some (chkG l hs,()):=G18_ok l hs
 simp only [g48,stdS,stdL,h18,h,not_false_eq_true]
theorem G48_ok {l:List Pt} {hs:List (List Pt)} (hf:Fine l hs):G48 std (encP l,encH hs,())=some (.inr (encP l,encH hs,encP (corn (allS l hs)),0,())):=by
 unfold G48
 have h18:g18 it0 std (encP l,encH hs,())=some (chkG l hs,()):=G18_ok l hs
 rw [chk_fine.2 hf] at h18
 have hm:=hf.many
 obtain ⟨b,hb1,hb2⟩:=G59_ok (l:=l) hm.1 hm.2 (fun x hx=>by obtain ⟨a1,a2,a3,a4⟩:=hf.box x hx; exact ⟨by omega,by omega,by omega,by omega⟩)
 rw [←corn_eq hb2] at hb1
 have hb1':g59 it0 std (encP l,())=some (encP (corn l),()):=hb1
 have h60:g60 it0 std (encP l,())=some (encP l,()):=G60_ok (l:=l) (by have:=hm.2; omega)
 have hl:=(corners_loop hf).1
 simp only [g48,it0_eq,stdS,stdL,encH_len,h18,h60,hb1',hl,not_true]
theorem corn_len {l:List Pt} {hs:List (List Pt)} (hf:Fine l hs):(corn (allS l hs)).length≤60:=(corners_loop hf).2
end Go.Am
end
section
namespace M06
theorem nx_last {S:List Pt} {a b x:Pt} (h:Nx S a b) (hx:x∈S) (z:cr a b x=0) (hf:far a b≤far a x):x=b:=by
 have h0:=(h.2.2 x hx).2 z
 have d1:=(far_iff h.2.1 z h0.1).1 h0.2
 have hne:sb b a≠(0,0):=fun e=>h.2.1 (sb_eq_zero.1 e).symm
 have hp:=dt_self_pos hne
 have hl:=lag (sb b a) (sb x a)
 have z':crs (sb b a) (sb x a)=0:=z
 rw [z'] at hl
 have e1:far a x=dt (sb x a) (sb x a):=by simp only [far,dt,sb]; grind
 have e2:far a b=dt (sb b a) (sb b a):=by simp only [far,dt,sb]; grind
 have e3:dt (sb b a) (sb b x)=dt (sb b a) (sb b a) - dt (sb b a) (sb x a):=by simp only [dt,sb]; grind
 have e4:dt (sb b x) (sb b x)=dt (sb b a) (sb b a)+dt (sb x a) (sb x a) - 2*dt (sb b a) (sb x a):=by simp only [dt,sb]; grind
 have hm:=h0.1
 refine Classical.byContradiction fun hn=>?_
 have hq:=dt_self_pos (u:=sb b x) (fun e=>hn (sb_eq_zero.1 e).symm)
 rw [e1,e2] at hf
 generalize dt (sb b a) (sb x a)=m at*
 generalize dt (sb b a) (sb b a)=n at*
 generalize dt (sb x a) (sb x a)=k at*
 have h1:n*n≤m*m:=by
  have:=Int.mul_le_mul_of_nonneg_left hf (Int.le_of_lt hp)
  omega
 have h2:=le_of_sq hm h1
 have h3:m=n:=by omega
 subst h3
 have:m*k=m*m:=by omega
 have hk:k=m:=by
  have h5:m*(k - m)=0:=by rw [Int.mul_sub]; omega
  rcases Int.mul_eq_zero.1 h5 with h|h<;>omega
 omega
theorem pth_get {S:List Pt}:∀ {l:List Pt} {i:Nat} {a b:Pt},Pth S l→l[i]?=some a→l[i+1]?=some b→Nx S a b
 |[],i,a,b,_,h,_=>by simp at h
 |[x],i,a,b,_,_,h=>by simp at h
 |x::y::l,0,a,b,h,h1,h2=>by
  simp at h1 h2; subst h1; subst h2; exact h.1
 |x::y::l,i+1,a,b,h,h1,h2=>pth_get (l:=y::l) (i:=i) h.2 (by simpa using h1) (by simpa using h2)
theorem cyc_get {S c:List Pt} (h:Cyc S c) (h2:2≤c.length) {i:Nat} {a b:Pt} (ha:c[i]?=some a) (hb:c[(i+1) % c.length]?=some b):Nx S a b:=by
 match c,h2,h with
 |x::y::r,_,h=>
  have hp:Pth S (x::y::r++[x]):=by
   rcases h.2.2 with ⟨h,_⟩|⟨_,h,_⟩
   ·cases h
   ·exact h
  have hi:i<(x::y::r).length:=(List.getElem?_eq_some_iff.1 ha).1
  refine pth_get hp (by rw [List.getElem?_append_left hi]; exact ha) ?_
  by_cases hl:i+1<(x::y::r).length
  ·rw [List.getElem?_append_left hl]
   rwa [Nat.mod_eq_of_lt hl] at hb
  ·have he:i+1=(x::y::r).length:=by omega
   rw [he,Nat.mod_self] at hb
   rw [List.getElem?_append_right (by omega),he]
   simp at hb⊢; exact hb
end M06
end
noncomputable section
namespace Go.Am
def ctr57:Ctr:=
 ⟨57,[.list 2, .agg [.int .i64, .int .i64], .int .i64],[],[(.ret,⟨[(0, .bool)],[],1⟩)]⟩
def la57:List LA:=
 [⟨94,[false,true],7,⟨⟨[(0, .yld 6),(1, .bptr 5 0),(6, .list 2),(7, .int .i64),(8, .int .i64)],[.box [.list 2], .box [.int .i64, .int .i64], .box [.int .i64], .box [.bool], .box [.clo 84 [] [.bptr 2 0]], .box [.list 2], .loop Go.LoopState.ready Option.none 57 [Bool.false,Bool.true,Bool.false,Bool.true,Bool.true,Bool.true] 47 [(22, .clo 94 [] [.bptr 5 0]),(4, .bptr 1 0),(3, .bptr 0 0),(7, .bptr 4 0),(6, .bptr 3 0)]],33⟩,[(AX.ret,⟨[],[.box [.list 2], .box [.int .i64, .int .i64], .box [.int .i64], .box [.bool], .box [.clo 84 [] [.bptr 2 0]], .box [.list 2], .loop Go.LoopState.ready Option.none 57 [Bool.false,Bool.true,Bool.false,Bool.true,Bool.true,Bool.true] 47 [(22, .clo 94 [] [.bptr 5 0]),(4, .bptr 1 0),(3, .bptr 0 0),(7, .bptr 4 0),(6, .bptr 3 0)]],33⟩),(AX.ret,⟨[],[.box [.list 2], .box [.int .i64, .int .i64], .box [.int .i64], .box [.bool], .box [.clo 84 [] [.bptr 2 0]], .box [.list 2], .loop Go.LoopState.done (Option.some Go.Code.ret) 57 [Bool.false,Bool.true,Bool.false,Bool.true,Bool.true,Bool.true] 47 [(22, .clo 94 [] [.bptr 5 0]),(4, .bptr 1 0),(3, .bptr 0 0),(7, .bptr 4 0),(6, .bptr 3 0)]],33⟩),((AX.exit 0),⟨[],[.box [.list 2], .box [.int .i64, .int .i64], .box [.int .i64], .box [.bool], .box [.clo 84 [] [.bptr 2 0]], .box [.list 2], .loop Go.LoopState.ready Option.none 57 [Bool.false,Bool.true,Bool.false,Bool.true,Bool.true,Bool.true] 47 [(22, .clo 94 [] [.bptr 5 0]),(4, .bptr 1 0),(3, .bptr 0 0),(7, .bptr 4 0),(6, .bptr 3 0)]],33⟩)]⟩⟩]
def ja57:List JA:=
 [⟨57,[true,false,true,true,true],0,[(AX.normal,⟨[(6, .bptr 0 0)],[.box [.bool]],47⟩),(AX.ret,⟨[(6, .bptr 0 0)],[.box [.bool]],47⟩)]⟩,
 ⟨57,[false,true,false,true,false,true,false,true,true,true],19,[(AX.normal,⟨[(3, .bptr 0 0),(4, .bptr 1 0),(6, .bptr 3 0),(7, .bptr 4 0),(46, .bool)],[.box [.list 2], .box [.int .i64, .int .i64], .box [.int .i64], .box [.bool], .box [.clo 84 [] [.bptr 2 0]], .box [.list 2], .dead, .box [.int .i64, .int .i64], .dead, .dead, .dead, .dead, .dead, .dead, .dead, .dead, .dead, .dead, .box [.int .i64, .int .i64]],47⟩)]⟩]
def gam57:List CF:=
 []
def an57:Anns:=
 ⟨gam57,ja57,[]⟩
def b57_1 (p:Prim):(LD×T69)→Option ((LD×T69)⊕((LD×T12)⊕((LD×T12)⊕(LD×T12)))):=
 fun a=>opt.run _ (
 opt.ask _ (p.cmp .lss a.2.2.2.2.2.2.2.2.1 a.2.2.2.2.2.2.2.1) (
 opt.need _ (p.rowOk a.2.2.2.2.2.2.1 (p.nat a.2.2.2.2.2.2.2.2.1) [ci,ci])<|
 opt.need _ (p.cmp .geq a.2.2.2.2.2.2.2.2.1 (0:Int))<|
 opt.need _ (p.cmp .neq (p.ofNat (p.len a.2.2.2.2.2.1)) (0:Int))<|
 opt.need _ (p.rowOk a.2.2.2.2.2.1 (p.nat (p.ar .rem .i64 (p.ar .add .i64 a.2.2.2.2.2.2.2.2.1 (1:Int)) (p.ofNat (p.len a.2.2.2.2.2.1)))) [ci,ci])<|
 opt.need _ (p.cmp .geq (p.ar .rem .i64 (p.ar .add .i64 a.2.2.2.2.2.2.2.2.1 (1:Int)) (p.ofNat (p.len a.2.2.2.2.2.1))) (0:Int))<|
 opt.ask _ (bif (p.cmp .eql (p.ar .sub .i64 (p.rdI a.2.2.2.2.2.1 (p.nat (p.ar .rem .i64 (p.ar .add .i64 a.2.2.2.2.2.2.2.2.1 (1:Int)) (p.ofNat (p.len a.2.2.2.2.2.1)))) 0) (p.rdI a.2.2.2.2.2.2.1 (p.nat a.2.2.2.2.2.2.2.2.1) 0)) (0:Int)) then (bif (p.cmp .eql (p.ar .sub .i64 (p.rdI a.2.2.2.2.2.1 (p.nat (p.ar .rem .i64 (p.ar .add .i64 a.2.2.2.2.2.2.2.2.1 (1:Int)) (p.ofNat (p.len a.2.2.2.2.2.1)))) 1) (p.rdI a.2.2.2.2.2.2.1 (p.nat a.2.2.2.2.2.2.2.2.1) 1)) (0:Int)) then Bool.true else Bool.false) else Bool.false) (
 opt.ret _ (Sum.inr (Sum.inl (a.1,(a.2.1,(a.2.2.1,(a.2.2.2.1,(a.2.2.2.2.1,(a.2.2.2.2.2.1,()))))))))) (
 opt.need _ (p.and Bool.true (p.and Bool.true Bool.true))<|
 opt.bnd ((LD×T70)) _ (
 opt.run ((LD×T70)) (
 opt.ask _ (p.cmp .lss (p.ar .sub .i64 (p.ar .mul .i64 (p.ar .sub .i64 (p.rdI a.2.2.2.2.2.1 (p.nat (p.ar .rem .i64 (p.ar .add .i64 a.2.2.2.2.2.2.2.2.1 (1:Int)) (p.ofNat (p.len a.2.2.2.2.2.1)))) 0) (p.rdI a.2.2.2.2.2.2.1 (p.nat a.2.2.2.2.2.2.2.2.1) 0)) (p.ar .sub .i64 a.2.2.1 (p.ar .mul .i64 (p.rdI a.2.2.2.2.2.2.1 (p.nat a.2.2.2.2.2.2.2.2.1) 1) a.2.2.2.1))) (p.ar .mul .i64 (p.ar .sub .i64 (p.rdI a.2.2.2.2.2.1 (p.nat (p.ar .rem .i64 (p.ar .add .i64 a.2.2.2.2.2.2.2.2.1 (1:Int)) (p.ofNat (p.len a.2.2.2.2.2.1)))) 1) (p.rdI a.2.2.2.2.2.2.1 (p.nat a.2.2.2.2.2.2.2.2.1) 1)) (p.ar .sub .i64 a.2.1 (p.ar .mul .i64 (p.rdI a.2.2.2.2.2.2.1 (p.nat a.2.2.2.2.2.2.2.2.1) 0) a.2.2.2.1)))) (0:Int)) (
 opt.ret _ (a.1,(a.2.1,(a.2.2.1,(a.2.2.2.1,(a.2.2.2.2.1,(a.2.2.2.2.2.1,((p.rdI a.2.2.2.2.2.2.1 (p.nat a.2.2.2.2.2.2.2.2.1) 0),((p.rdI a.2.2.2.2.2.2.1 (p.nat a.2.2.2.2.2.2.2.2.1) 1),((p.ar .sub .i64 (p.rdI a.2.2.2.2.2.1 (p.nat (p.ar .rem .i64 (p.ar .add .i64 a.2.2.2.2.2.2.2.2.1 (1:Int)) (p.ofNat (p.len a.2.2.2.2.2.1)))) 0) (p.rdI a.2.2.2.2.2.2.1 (p.nat a.2.2.2.2.2.2.2.2.1) 0)),((p.ar .sub .i64 (p.rdI a.2.2.2.2.2.1 (p.nat (p.ar .rem .i64 (p.ar .add .i64 a.2.2.2.2.2.2.2.2.1 (1:Int)) (p.ofNat (p.len a.2.2.2.2.2.1)))) 1) (p.rdI a.2.2.2.2.2.2.1 (p.nat a.2.2.2.2.2.2.2.2.1) 1)),(Bool.true,())))))))))))) (
 opt.ask _ (p.cmp .eql (p.ofNat (p.len a.1)) (2:Int)) (
 opt.ret _ (a.1,(a.2.1,(a.2.2.1,(a.2.2.2.1,(a.2.2.2.2.1,(a.2.2.2.2.2.1,((p.rdI a.2.2.2.2.2.2.1 (p.nat a.2.2.2.2.2.2.2.2.1) 0),((p.rdI a.2.2.2.2.2.2.1 (p.nat a.2.2.2.2.2.2.2.2.1) 1),((p.ar .sub .i64 (p.rdI a.2.2.2.2.2.1 (p.nat (p.ar .rem .i64 (p.ar .add .i64 a.2.2.2.2.2.2.2.2.1 (1:Int)) (p.ofNat (p.len a.2.2.2.2.2.1)))) 0) (p.rdI a.2.2.2.2.2.2.1 (p.nat a.2.2.2.2.2.2.2.2.1) 0)),((p.ar .sub .i64 (p.rdI a.2.2.2.2.2.1 (p.nat (p.ar .rem .i64 (p.ar .add .i64 a.2.2.2.2.2.2.2.2.1 (1:Int)) (p.ofNat (p.len a.2.2.2.2.2.1)))) 1) (p.rdI a.2.2.2.2.2.2.1 (p.nat a.2.2.2.2.2.2.2.2.1) 1)),((p.cmp .lss (p.ar .add .i64 (p.ar .mul .i64 (p.ar .sub .i64 (p.rdI a.2.2.2.2.2.1 (p.nat (p.ar .rem .i64 (p.ar .add .i64 a.2.2.2.2.2.2.2.2.1 (1:Int)) (p.ofNat (p.len a.2.2.2.2.2.1)))) 0) (p.rdI a.2.2.2.2.2.2.1 (p.nat a.2.2.2.2.2.2.2.2.1) 0)) (p.ar .sub .i64 a.2.1 (p.ar .mul .i64 (p.rdI a.2.2.2.2.2.2.1 (p.nat a.2.2.2.2.2.2.2.2.1) 0) a.2.2.2.1))) (p.ar .mul .i64 (p.ar .sub .i64 (p.rdI a.2.2.2.2.2.1 (p.nat (p.ar .rem .i64 (p.ar .add .i64 a.2.2.2.2.2.2.2.2.1 (1:Int)) (p.ofNat (p.len a.2.2.2.2.2.1)))) 1) (p.rdI a.2.2.2.2.2.2.1 (p.nat a.2.2.2.2.2.2.2.2.1) 1)) (p.ar .sub .i64 a.2.2.1 (p.ar .mul .i64 (p.rdI a.2.2.2.2.2.2.1 (p.nat a.2.2.2.2.2.2.2.2.1) 1) a.2.2.2.1)))) (0:Int)),())))))))))))) (
 opt.ret _ (a.1,(a.2.1,(a.2.2.1,(a.2.2.2.1,(a.2.2.2.2.1,(a.2.2.2.2.2.1,((p.rdI a.2.2.2.2.2.2.1 (p.nat a.2.2.2.2.2.2.2.2.1) 0),((p.rdI a.2.2.2.2.2.2.1 (p.nat a.2.2.2.2.2.2.2.2.1) 1),((p.ar .sub .i64 (p.rdI a.2.2.2.2.2.1 (p.nat (p.ar .rem .i64 (p.ar .add .i64 a.2.2.2.2.2.2.2.2.1 (1:Int)) (p.ofNat (p.len a.2.2.2.2.2.1)))) 0) (p.rdI a.2.2.2.2.2.2.1 (p.nat a.2.2.2.2.2.2.2.2.1) 0)),((p.ar .sub .i64 (p.rdI a.2.2.2.2.2.1 (p.nat (p.ar .rem .i64 (p.ar .add .i64 a.2.2.2.2.2.2.2.2.1 (1:Int)) (p.ofNat (p.len a.2.2.2.2.2.1)))) 1) (p.rdI a.2.2.2.2.2.2.1 (p.nat a.2.2.2.2.2.2.2.2.1) 1)),(Bool.false,()))))))))))))))) fun b=>
 opt.ask _ b.2.2.2.2.2.2.2.2.2.2.1 (
 opt.ret _ (Sum.inr (Sum.inr (Sum.inl (b.1,(b.2.1,(b.2.2.1,(b.2.2.2.1,(Bool.false,(b.2.2.2.2.2.1,())))))))))) (
 opt.ret _ (Sum.inl (b.1,(b.2.1,(b.2.2.1,(b.2.2.2.1,(b.2.2.2.2.1,(b.2.2.2.2.2.1,(a.2.2.2.2.2.2.1,(a.2.2.2.2.2.2.2.1,((p.ar .add .i64 a.2.2.2.2.2.2.2.2.1 (1:Int)),()))))))))))))) (
 opt.ret _ (Sum.inr (Sum.inr (Sum.inr (a.1,(a.2.1,(a.2.2.1,(a.2.2.2.1,(a.2.2.2.2.1,(a.2.2.2.2.2.1,())))))))))))
def g57 (it:It):(p:Prim)→(LD×T6)→Option T2:=
 fun p x=>
 opt.ask _ (p.cmp .eql (p.ofNat (p.len x.1)) (1:Int)) (
 opt.need _ (p.rowOk x.1 (p.nat (0:Int)) [ci,ci])<|
 opt.need _ (p.and Bool.true (p.and Bool.true Bool.true))<|
 opt.ret _ ((bif (p.cmp .eql x.2.1 (p.ar .mul .i64 (p.rdI x.1 (p.nat (0:Int)) 0) x.2.2.2.1)) then (bif (p.cmp .eql x.2.2.1 (p.ar .mul .i64 (p.rdI x.1 (p.nat (0:Int)) 1) x.2.2.2.1)) then Bool.true else Bool.false) else Bool.false),())) (
 opt.alt T2 T2 _ (
 opt.run (((Bool×Unit)⊕(Bool×Unit))) (
 opt.alt ((LD×T12)) (((LD×T12)⊕(LD×T12))) _ (
 it _ _ (b57_1 p) (x.1,(x.2.1,(x.2.2.1,(x.2.2.2.1,(Bool.false,(x.1,(x.1,((p.ofNat (p.len x.1)),((0:Int),())))))))))) (fun a=>
 opt.ret _ (Sum.inl (a.2.2.2.2.1,()))) (fun b=>
 opt.alt ((LD×T12)) ((LD×T12)) _ (some b) (fun c=>
 opt.ret _ (Sum.inr (c.2.2.2.2.1,()))) (fun d=>
 opt.bnd ((LD×T12)) _ (some d) fun e=>
 opt.ret _ (Sum.inl (e.2.2.2.2.1,())))))) (fun f=>
 opt.ret _ (Bool.true,())) (fun g=>
 opt.bnd T2 _ (some g) fun h=>
 opt.ret _ (h.1,())))
def G57:=g57 it0
theorem ok57:CtrOk PG ctr57 (G57 std):=okF (a:=an57) (l:=la57) (gN) (by kernel_rfl) fun _ _=>by kernel_rfl
def ctr77:Ctr:=
 ⟨77,[.int .i64],[],[(.ret,⟨[(0, .int .i64)],[],1⟩)]⟩
def la77:List LA:=
 []
def ja77:List JA:=
 []
def gam77:List CF:=
 []
def an77:Anns:=
 ⟨gam77,ja77,[]⟩
def G77:(p:Prim)→T1→Option T0:=
 fun p x=>
 opt.ret _ ((p.mm .gtr x.1 (p.ar .sub .i64 (0:Int) x.1)),())
theorem ok77:CtrOk PG ctr77 (G77 std):=okF (a:=an77) (l:=la77) (gN) (by kernel_rfl) fun _ _=>by kernel_rfl
def ctr93:Ctr:=
 ⟨93,[.list 1],[],[(.ret,⟨[(0, .int .i64)],[],1⟩)]⟩
def la93:List LA:=
 [⟨93,[false,true,false,true,true],0,⟨⟨[(3, .int .i64),(6, .list 1),(7, .int .i64),(8, .int .i64)],[],22⟩,[((AX.exit 0),⟨[(3, .int .i64)],[],22⟩)]⟩⟩,
 ⟨93,[false,true,true,false,false,true,true,false,false,true,false,true,true],0,⟨⟨[(3, .int .i64),(5, .int .i64),(6, .list 1),(7, .int .i64),(8, .int .i64)],[],22⟩,[((AX.exit 2),⟨[(3, .int .i64),(6, .list 1),(7, .int .i64),(8, .int .i64)],[],22⟩)]⟩⟩]
def ja93:List JA:=
 []
def gam93:List CF:=
 [⟨ctr77,G77⟩]
def an93:Anns:=
 ⟨gam93,ja93,[]⟩
def b93_2 (p:Prim):T60→Option ((Int×(Int×(LD×(Int×(Int×Unit)))))⊕(Int×(LD×(Int×(Int×Unit))))):=
 fun a=>opt.run _ (
 opt.ask _ (p.cmp .neq a.2.1 (0:Int)) (
 opt.need _ (p.cmp .neq a.2.1 (0:Int))<|
 opt.ret _ (Sum.inl (a.2.1,((p.ar .rem .i64 a.1 a.2.1),(a.2.2.1,(a.2.2.2.1,(a.2.2.2.2.1,()))))))) (
 opt.ret _ (Sum.inr (a.1,(a.2.2.1,(a.2.2.2.1,(a.2.2.2.2.1,())))))))
def c93_1 (it:It) (p:Prim):T55→Option ((Int×(LD×(Int×(Int×Unit))))⊕(Int×Unit)):=
 fun a=>opt.run _ (
 opt.ask _ (p.cmp .lss a.2.2.2.1 a.2.2.1) (
 opt.need _ (p.rowOk a.2.1 (p.nat a.2.2.2.1) [ci])<|
 opt.need _ (p.cmp .geq a.2.2.2.1 (0:Int))<|
 opt.bnd T0 _ (G77 p ((p.rdI a.2.1 (p.nat a.2.2.2.1) 0),())) fun b=>
 opt.bnd ((Int×(LD×(Int×(Int×Unit))))) _ (
 it _ _ (b93_2 p) (a.1,(b.1,(a.2.1,(a.2.2.1,(a.2.2.2.1,())))))) fun c=>
 opt.ret _ (Sum.inl (c.1,(c.2.1,(c.2.2.1,((p.ar .add .i64 c.2.2.2.1 (1:Int)),())))))) (
 opt.ret _ (Sum.inr (a.1,()))))
def g93 (it:It):(p:Prim)→(LD×Unit)→Option T0:=
 fun p x=>
 opt.bnd T0 _ (
 it _ _ (c93_1 it p) ((0:Int),(x.1,((p.ofNat (p.len x.1)),((0:Int),()))))) fun a=>
 opt.ret _ (a.1,())
def G93:=g93 it0
theorem ok93:CtrOk PG ctr93 (G93 std):=okF (a:=an93) (l:=la93) (gC ok77 (gN)) (by kernel_rfl) fun _ _=>by kernel_rfl
def ctr65:Ctr:=
 ⟨65,[.int .i64, .int .i64],[],[(.ret,⟨[(0, .agg [.int .i64, .int .i64])],[],1⟩)]⟩
def la65:List LA:=
 []
def ja65:List JA:=
 []
def gam65:List CF:=
 [⟨ctr93,G93⟩]
def an65:Anns:=
 ⟨gam65,ja65,[]⟩
def g65 (it:It):(p:Prim)→T4→Option T5:=
 fun p x=>
 opt.need _ (p.and (p.leN (p.add 0 2) (p.len [[(D.int .i64 x.1)],[(D.int .i64 x.2.1)]])) Bool.true)<|
 opt.bnd T0 _ (g93 it p ((p.cut [[(D.int .i64 x.1)],[(D.int .i64 x.2.1)]] 0 2),())) fun a=>
 opt.need _ (p.cmp .neq a.1 (0:Int))<|
 opt.need _ (p.cmp .neq a.1 (0:Int))<|
 opt.ret _ ((p.ar .quo .i64 x.1 a.1),((p.ar .quo .i64 x.2.1 a.1),()))
def G65:=g65 it0
theorem ok65:CtrOk PG ctr65 (G65 std):=okF (a:=an65) (l:=la65) (gC ok93 (gN)) (by kernel_rfl) fun _ _=>by kernel_rfl
def ctr71:Ctr:=
 ⟨71,[.agg [.int .i64, .int .i64], .agg [.int .i64, .int .i64]],[],[(.ret,⟨[(0, .bool)],[],1⟩)]⟩
def la71:List LA:=
 []
def ja71:List JA:=
 [⟨71,[false,false,true,true,true,true],0,[(AX.normal,⟨[(2, .bptr 0 0),(3, .bptr 1 0),(7, .int .i64),(8, .int .i64),(40, .bool)],[.box [.int .i64, .int .i64], .box [.int .i64, .int .i64]],53⟩)]⟩]
def gam71:(Prim→Tup (ctr71).scs→Option (STup (scss (ctr71).outs)))→List CF:=
 fun R=>[⟨ctr71,R⟩]
def an71:(Prim→Tup (ctr71).scs→Option (STup (scss (ctr71).outs)))→Anns:=
 fun R=>⟨gam71 R,ja71,[]⟩
def G71:(Prim→Tup (ctr71).scs→Option (STup (scss (ctr71).outs)))→(p:Prim)→T11→Option T2:=
 fun R=>fun p x=>
 opt.need _ (p.cmp .neq x.2.1 (0:Int))<|
 opt.need _ (p.cmp .neq x.2.2.2.1 (0:Int))<|
 opt.ask _ (p.cmp .neq (p.ar .quo .i64 x.1 x.2.1) (p.ar .quo .i64 x.2.2.1 x.2.2.2.1)) (
 opt.ret _ ((p.cmp .lss (p.ar .quo .i64 x.1 x.2.1) (p.ar .quo .i64 x.2.2.1 x.2.2.2.1)),())) (
 opt.need _ (p.cmp .neq x.2.1 (0:Int))<|
 opt.need _ (p.cmp .neq x.2.2.2.1 (0:Int))<|
 opt.bnd T53 _ (
 opt.run T53 (
 opt.ask _ (p.cmp .eql (p.ar .rem .i64 x.1 x.2.1) (0:Int)) (
 opt.ret _ (x.1,(x.2.1,(x.2.2.1,(x.2.2.2.1,((p.ar .rem .i64 x.1 x.2.1),((p.ar .rem .i64 x.2.2.1 x.2.2.2.1),(Bool.true,())))))))) (
 opt.ret _ (x.1,(x.2.1,(x.2.2.1,(x.2.2.2.1,((p.ar .rem .i64 x.1 x.2.1),((p.ar .rem .i64 x.2.2.1 x.2.2.2.1),((p.cmp .eql (p.ar .rem .i64 x.2.2.1 x.2.2.2.1) (0:Int)),())))))))))) fun a=>
 opt.ask _ a.2.2.2.2.2.2.1 (
 opt.ret _ ((p.cmp .lss a.2.2.2.2.1 a.2.2.2.2.2.1),())) (
 opt.bnd T2 _ (R p (a.2.2.2.1,(a.2.2.2.2.2.1,(a.2.1,(a.2.2.2.2.1,()))))) fun b=>
 opt.ret _ (b.1,())))
def Fr71:Nat→Prim→Tup (ctr71).scs→Option (STup (scss (ctr71).outs)):=
 fun n=>Nat.rec (motive:=fun _=>(Prim→Tup (ctr71).scs→Option (STup (scss (ctr71).outs)))) (fun _ _=>none) (fun _ f p x=>G71 f p x) n
def F71:Prim→Tup (ctr71).scs→Option (STup (scss (ctr71).outs)):=
 Fr71 100
theorem eq71 (R:(Prim→Tup (ctr71).scs→Option (STup (scss (ctr71).outs)))) (p:Prim) (x:Tup (ctr71).scs):bodyRun opt p (autoEnv Go.Proofs.Try.prog) (mkOrc opt p (autoEnv Go.Proofs.Try.prog) 400 (an71 R) la71) 400 ctr71 x=G71 R p x:=by kernel_rfl
theorem gok71 (R:(Prim→Tup (ctr71).scs→Option (STup (scss (ctr71).outs)))) (hR:CtrOk Go.Proofs.Try.prog ctr71 (R std)):GamOk Go.Proofs.Try.prog (gam71 R):=by
 intro cf h
 simp only [gam71,List.mem_cons,List.not_mem_nil,or_false] at h
 rcases h with rfl
 ·exact hR
theorem enters71:Enters Go.Proofs.Try.prog 71:=enters_auto (b:=_) rfl (by kernel_rfl)
theorem ok71_step (R:(Prim→Tup (ctr71).scs→Option (STup (scss (ctr71).outs)))) (hR:CtrOk Go.Proofs.Try.prog ctr71 (R std)):CtrOk Go.Proofs.Try.prog ctr71 (fun x=>G71 R std x):=ctr_of_body (autoEnv_ok follows_mixed) (mkOrc_ok (autoEnv_ok follows_mixed) (gok71 R hR) _) enters71 (fun x=>eq71 R std x)
theorem ok71_n:∀ n,CtrOk Go.Proofs.Try.prog ctr71 (Fr71 n std)
 |0=>⟨enters71,fun x y h=>nomatch h⟩
 |n+1=>ok71_step (Fr71 n) (ok71_n n)
theorem ok71:CtrOk Go.Proofs.Try.prog ctr71 (F71 std):=ok71_n 100
def ctr76:Ctr:=
 ⟨76,[.agg [.int .i64, .int .i64, .int .i64, .int .i64], .agg [.int .i64, .int .i64, .int .i64, .int .i64]],[],[(.ret,⟨[(0, .tuple [.agg [.int .i64, .int .i64, .int .i64], .bool])],[],1⟩)]⟩
def la76:List LA:=
 []
def ja76:List JA:=
 [⟨76,[true,false,true,true,true,true],0,[(AX.normal,⟨[(2, .bptr 0 0),(4, .bptr 1 0),(6, .int .i64),(8, .int .i64),(9, .int .i64)],[.box [.int .i64, .int .i64, .int .i64, .int .i64], .box [.int .i64, .int .i64, .int .i64]],101⟩)]⟩,
 ⟨76,[false,false,true,true,true,true,true],0,[(AX.normal,⟨[(2, .bptr 0 0),(4, .bptr 1 0),(6, .int .i64),(8, .int .i64),(57, .bool)],[.box [.int .i64, .int .i64, .int .i64, .int .i64], .box [.int .i64, .int .i64, .int .i64]],101⟩)]⟩]
def gam76:List CF:=
 [⟨ctr93,G93⟩]
def an76:Anns:=
 ⟨gam76,ja76,[]⟩
def g76 (it:It):(p:Prim)→(Int×(Int×(Int×(Int×(Int×(Int×(Int×(Int×Unit))))))))→Option T22:=
 fun p x=>
 opt.bnd T71 _ (
 opt.run T71 (
 opt.ask _ (p.cmp .lss (p.ar .sub .i64 (p.ar .mul .i64 x.2.2.1 x.2.2.2.2.2.2.2.1) (p.ar .mul .i64 x.2.2.2.1 x.2.2.2.2.2.2.1)) (0:Int)) (
 opt.ret _ (x.1,(x.2.1,(x.2.2.1,(x.2.2.2.1,((0:Int),((0:Int),((0:Int),((p.ar .sub .i64 (0:Int) (p.ar .sub .i64 (p.ar .mul .i64 x.2.2.1 x.2.2.2.2.2.2.2.1) (p.ar .mul .i64 x.2.2.2.1 x.2.2.2.2.2.2.1))),((p.ar .sub .i64 (0:Int) (p.ar .sub .i64 (p.ar .mul .i64 (p.ar .sub .i64 x.2.2.2.2.1 x.1) x.2.2.2.2.2.2.2.1) (p.ar .mul .i64 (p.ar .sub .i64 x.2.2.2.2.2.1 x.2.1) x.2.2.2.2.2.2.1))),((p.ar .sub .i64 (0:Int) (p.ar .sub .i64 (p.ar .mul .i64 (p.ar .sub .i64 x.2.2.2.2.1 x.1) x.2.2.2.1) (p.ar .mul .i64 (p.ar .sub .i64 x.2.2.2.2.2.1 x.2.1) x.2.2.1))),()))))))))))) (
 opt.ret _ (x.1,(x.2.1,(x.2.2.1,(x.2.2.2.1,((0:Int),((0:Int),((0:Int),((p.ar .sub .i64 (p.ar .mul .i64 x.2.2.1 x.2.2.2.2.2.2.2.1) (p.ar .mul .i64 x.2.2.2.1 x.2.2.2.2.2.2.1)),((p.ar .sub .i64 (p.ar .mul .i64 (p.ar .sub .i64 x.2.2.2.2.1 x.1) x.2.2.2.2.2.2.2.1) (p.ar .mul .i64 (p.ar .sub .i64 x.2.2.2.2.2.1 x.2.1) x.2.2.2.2.2.2.1)),((p.ar .sub .i64 (p.ar .mul .i64 (p.ar .sub .i64 x.2.2.2.2.1 x.1) x.2.2.2.1) (p.ar .mul .i64 (p.ar .sub .i64 x.2.2.2.2.2.1 x.2.1) x.2.2.1)),()))))))))))))) fun a=>
 opt.bnd T33 _ (
 opt.run T33 (
 opt.ask _ (p.cmp .eql a.2.2.2.2.2.2.2.1 (0:Int)) (
 opt.ret _ (a.1,(a.2.1,(a.2.2.1,(a.2.2.2.1,(a.2.2.2.2.1,(a.2.2.2.2.2.1,(a.2.2.2.2.2.2.1,(a.2.2.2.2.2.2.2.1,(a.2.2.2.2.2.2.2.2.1,(Bool.true,()))))))))))) (
 opt.ask _ (p.cmp .lss a.2.2.2.2.2.2.2.2.1 (0:Int)) (
 opt.ret _ (a.1,(a.2.1,(a.2.2.1,(a.2.2.2.1,(a.2.2.2.2.1,(a.2.2.2.2.2.1,(a.2.2.2.2.2.2.1,(a.2.2.2.2.2.2.2.1,(a.2.2.2.2.2.2.2.2.1,(Bool.true,()))))))))))) (
 opt.ask _ (p.cmp .gtr a.2.2.2.2.2.2.2.2.1 a.2.2.2.2.2.2.2.1) (
 opt.ret _ (a.1,(a.2.1,(a.2.2.1,(a.2.2.2.1,(a.2.2.2.2.1,(a.2.2.2.2.2.1,(a.2.2.2.2.2.2.1,(a.2.2.2.2.2.2.2.1,(a.2.2.2.2.2.2.2.2.1,(Bool.true,()))))))))))) (
 opt.ask _ (p.cmp .lss a.2.2.2.2.2.2.2.2.2.1 (0:Int)) (
 opt.ret _ (a.1,(a.2.1,(a.2.2.1,(a.2.2.2.1,(a.2.2.2.2.1,(a.2.2.2.2.2.1,(a.2.2.2.2.2.2.1,(a.2.2.2.2.2.2.2.1,(a.2.2.2.2.2.2.2.2.1,(Bool.true,()))))))))))) (
 opt.ret _ (a.1,(a.2.1,(a.2.2.1,(a.2.2.2.1,(a.2.2.2.2.1,(a.2.2.2.2.2.1,(a.2.2.2.2.2.2.1,(a.2.2.2.2.2.2.2.1,(a.2.2.2.2.2.2.2.2.1,((p.cmp .gtr a.2.2.2.2.2.2.2.2.2.1 a.2.2.2.2.2.2.2.1),())))))))))))))))) fun b=>
 opt.ask _ b.2.2.2.2.2.2.2.2.2.1 (
 opt.ret _ ((0:Int),((0:Int),((0:Int),(Bool.false,()))))) (
 opt.need _ (p.and (p.leN (p.add 0 3) (p.len [[(D.int .i64 (p.ar .add .i64 (p.ar .mul .i64 b.1 b.2.2.2.2.2.2.2.1) (p.ar .mul .i64 b.2.2.1 b.2.2.2.2.2.2.2.2.1)))],[(D.int .i64 (p.ar .add .i64 (p.ar .mul .i64 b.2.1 b.2.2.2.2.2.2.2.1) (p.ar .mul .i64 b.2.2.2.1 b.2.2.2.2.2.2.2.2.1)))],[(D.int .i64 b.2.2.2.2.2.2.2.1)]])) Bool.true)<|
 opt.bnd T0 _ (g93 it p ((p.cut [[(D.int .i64 (p.ar .add .i64 (p.ar .mul .i64 b.1 b.2.2.2.2.2.2.2.1) (p.ar .mul .i64 b.2.2.1 b.2.2.2.2.2.2.2.2.1)))],[(D.int .i64 (p.ar .add .i64 (p.ar .mul .i64 b.2.1 b.2.2.2.2.2.2.2.1) (p.ar .mul .i64 b.2.2.2.1 b.2.2.2.2.2.2.2.2.1)))],[(D.int .i64 b.2.2.2.2.2.2.2.1)]] 0 3),())) fun c=>
 opt.need _ (p.cmp .neq c.1 (0:Int))<|
 opt.need _ (p.cmp .neq c.1 (0:Int))<|
 opt.need _ (p.cmp .neq c.1 (0:Int))<|
 opt.ret _ ((p.ar .quo .i64 (p.ar .add .i64 (p.ar .mul .i64 b.1 b.2.2.2.2.2.2.2.1) (p.ar .mul .i64 b.2.2.1 b.2.2.2.2.2.2.2.2.1)) c.1),((p.ar .quo .i64 (p.ar .add .i64 (p.ar .mul .i64 b.2.1 b.2.2.2.2.2.2.2.1) (p.ar .mul .i64 b.2.2.2.1 b.2.2.2.2.2.2.2.2.1)) c.1),((p.ar .quo .i64 b.2.2.2.2.2.2.2.1 c.1),(Bool.true,())))))
def G76:=g76 it0
theorem ok76:CtrOk PG ctr76 (G76 std):=okF (a:=an76) (l:=la76) (gC ok93 (gN)) (by kernel_rfl) fun _ _=>by kernel_rfl
def ctr68:Ctr:=
 ⟨68,[.agg [.int .i64, .int .i64], .agg [.int .i64, .int .i64, .int .i64, .int .i64]],[],[(.ret,⟨[(0, .tuple [.agg [.int .i64, .int .i64], .bool])],[],1⟩)]⟩
def la68:List LA:=
 []
def ja68:List JA:=
 [⟨68,[false,false,true,true,true],0,[(AX.normal,⟨[(3, .bptr 0 0),(4, .bptr 1 0),(6, .bptr 2 0),(8, .int .i64),(29, .bool)],[.box [.int .i64, .int .i64, .int .i64, .int .i64], .box [.int .i64, .int .i64], .box [.int .i64, .int .i64]],40⟩)]⟩]
def gam68:List CF:=
 [⟨ctr65,G65⟩]
def an68:Anns:=
 ⟨gam68,ja68,[]⟩
def g68 (it:It):(p:Prim)→T51→Option T20:=
 fun p x=>
 opt.bnd T33 _ (
 opt.run T33 (
 opt.ask _ (p.cmp .leq (p.ar .add .i64 (p.ar .mul .i64 x.2.2.2.2.1 (p.ar .sub .i64 x.1 x.2.2.1)) (p.ar .mul .i64 x.2.2.2.2.2.1 (p.ar .sub .i64 x.2.1 x.2.2.2.1))) (0:Int)) (
 opt.ret _ (x.2.2.1,(x.2.2.2.1,(x.2.2.2.2.1,(x.2.2.2.2.2.1,((0:Int),((0:Int),((p.ar .sub .i64 x.1 x.2.2.1),((p.ar .sub .i64 x.2.1 x.2.2.2.1),((p.ar .add .i64 (p.ar .mul .i64 x.2.2.2.2.1 x.2.2.2.2.1) (p.ar .mul .i64 x.2.2.2.2.2.1 x.2.2.2.2.2.1)),(Bool.true,()))))))))))) (
 opt.ret _ (x.2.2.1,(x.2.2.2.1,(x.2.2.2.2.1,(x.2.2.2.2.2.1,((0:Int),((0:Int),((p.ar .sub .i64 x.1 x.2.2.1),((p.ar .sub .i64 x.2.1 x.2.2.2.1),((p.ar .add .i64 (p.ar .mul .i64 x.2.2.2.2.1 x.2.2.2.2.1) (p.ar .mul .i64 x.2.2.2.2.2.1 x.2.2.2.2.2.1)),((p.cmp .geq (p.ar .add .i64 (p.ar .mul .i64 x.2.2.2.2.1 (p.ar .sub .i64 x.1 x.2.2.1)) (p.ar .mul .i64 x.2.2.2.2.2.1 (p.ar .sub .i64 x.2.1 x.2.2.2.1))) (p.ar .add .i64 (p.ar .mul .i64 x.2.2.2.2.1 x.2.2.2.2.1) (p.ar .mul .i64 x.2.2.2.2.2.1 x.2.2.2.2.2.1))),()))))))))))))) fun a=>
 opt.ask _ a.2.2.2.2.2.2.2.2.2.1 (
 opt.ret _ ((0:Int),((0:Int),(Bool.false,())))) (
 opt.bnd T5 _ (g65 it p ((p.ar .mul .i64 (p.ar .sub .i64 (p.ar .mul .i64 a.2.2.1 a.2.2.2.2.2.2.2.1) (p.ar .mul .i64 a.2.2.2.1 a.2.2.2.2.2.2.1)) (p.ar .sub .i64 (p.ar .mul .i64 a.2.2.1 a.2.2.2.2.2.2.2.1) (p.ar .mul .i64 a.2.2.2.1 a.2.2.2.2.2.2.1))),(a.2.2.2.2.2.2.2.2.1,()))) fun b=>
 opt.ret _ (b.1,(b.2.1,(Bool.true,()))))
def G68:=g68 it0
theorem ok68:CtrOk PG ctr68 (G68 std):=okF (a:=an68) (l:=la68) (gC ok65 (gN)) (by kernel_rfl) fun _ _=>by kernel_rfl
end Go.Am
end
