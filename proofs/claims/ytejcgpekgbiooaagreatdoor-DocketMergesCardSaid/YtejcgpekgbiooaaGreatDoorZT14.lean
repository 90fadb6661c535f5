/- Texts of this claim. -/
import Derived.Test.YtejcgpekgbiooaaGreatDoorZT13
import Derived.Test.YtejcgpekgbiooaaGreatDoorRows
import Derived.Lib.LaidTab
import Derived.LaidLaws
import Derived.Shelf.Vars
import Derived.Lay
import Derived.JoinedCond
import Derived.JoinedOf
import Derived.JoinedAt
import Derived.LaidMore
import Derived.Stop.Joined
set_option linter.all false
set_option maxRecDepth 100000
set_option maxHeartbeats 0
open Sum renaming inl→eAs,inr→eAm
open Go.Frame renaming enter→eFr
open Nat renaming zero_le→eBb,zero_add→eAy,beq→eAk,eq_of_beq_eq_true→eAg,le_refl→eAp,add_zero→eBk,sub_zero→eGs,lt_or_ge→eCu,add_assoc→eCf,mod_lt→eGh
open List renaming range→eAv,find?_eq_none→eFn,getElem?_eq_some_iff→eAe,mem_range→eBj,find?_some→eFj,mem_of_find?_eq_some→eCv,mem_of_getElem?→eAn,length_set→eFz,mem_cons→eBa,not_mem_nil→eCl,mem_iff_getElem→eBs,getElem?_eq_getElem→eAd,getElem_mem→eDe,idxOf_lt_length_of_mem→eDc,getElem_idxOf→eGk,replicate→eAu,getD_eq_getElem?_getD→eAr,getElem?_replicate→eCs,getElem?_map→eAj,getElem?_eq_none→eDv,length_eq_zero_iff→eBw,length_map→eBp,map_cons→eFs,mem_map→eBq,length_take→eCk,take_add_one→eGb,take_length→eDf,any_eq_true→eBd,foldl_cons→eDo,nodup_cons→eGm,mem_cons_of_mem→eCq,mem_cons_self→eBv,mem_append→eBx,mem_singleton→eBn,mem_append_left→eDp,length_append→eCz,mem_filter→eDb,getElem?_take→eFl,getElem?_set_ne→eFa,ext_getElem?→eCj,mem_map_of_mem→eGt,take_of_length_le→eBz,drop_zero→eCo,take_zero→eGg,length_drop→eGe,getElem?_drop→eDh,length_nil→eDw,append_nil→eDx,getElem?_cons_zero→eDy,getElem?_cons_succ→eDl,all_eq_true→eBm,getElem?_append_right→eFt,length_cons→eCa
open Option renaming map_some→eBo,bind_some→eCb
open Bool renaming eq_iff_iff→eBu,false_eq_true→eAh,not_true→eCp,not_false→eCn,and_true→eDm,eq_false_iff→eGc,false_and→eDn,and_self→eCc,and_eq_true→eAf,not_eq_true'→eCy,and_false→eGq,or_eq_true→eBh,or_false→eGd
open Int renaming reduceLT→eAa,reduceEq→eAb,reduceLE→eAc,le_refl→eDd,toNat_zero→eFx
open Go.Proofs.Tryz renaming prog → PG
section
namespace Go.Am
open Go Go.RowKit Go.Proofs
theorem u8v:z9v (v1i t5p orcU 400 16 []) (.d (.bool true))=true:=by kernel_rfl
def v09:Ctr:=⟨16,[],[],[(.ret,⟨[(0, .bool)],[],1⟩)]⟩
def G16 (_:Prim) (_:Unit):Option (Bool×Unit):=some (true,())
def F16:Prim→Tup (v09).scs→Option (STup (scss (v09).outs)):=fun p x=>G16 p x
theorem ok16:CtrOk Tryz.prog v09 (F16 std):=by
 refine ⟨enters_of Tryz.func16 rfl rfl,fun x y a=>?_⟩
 cases a
 refine ⟨eBb _,?_⟩
 show z3s _ 16 [] [] (.d (.bool true)) []
 exact x2j (y7r follows_mixed) (x6m v7h _ _) u8v
end Go.Am
end
section
namespace Go.Am
open D12
variable {fl fl':List Int→Bool}
def u7h (b:List Th):Prop:=b.length≤1000∧(b.map (·.num)).Nodup∧∀ t∈b,0≤t.val∧t.val≤1000000∧0≤t.hrs∧t.hrs≤10000
def u7i (m:Nat) (b:List Th):Prop:=b.length≤m∧(b.map (·.num)).Nodup∧∀ t∈b,0≤t.val∧t.val≤1000000∧0≤t.hrs∧t.hrs≤10000
theorem u7i.ok {m:Nat} {b:List Th} (h:u7i m b) (hm:m≤1000):u7h b:=⟨by have:=h.1; omega,h.2⟩
def no:Sf:=fun _=>none
def nums (b:List Th):List Int:=b.map (·.num)
theorem y5l {l:List Cd} {c:Cd} (b:(l.map (·.n)).Nodup) {i:Nat} (h:l[i]?=some c):atI l c.n=(i:Int):=by
 unfold atI atO
 cases a:(eAv l.length).find? (fun i=>decide ((l.getD i default).n=c.n)) with
 |none=>
  rw [eFn] at a
  have f:i<l.length:=(eAe.1 h).1
  have:=a i (eBj.2 f)
  rw [z0p h] at this
  simp at this
 |some j=>
  have e:=eFj a
  have g:=eBj.1 (eCv a)
  obtain ⟨m,hm⟩:=z0d g
  rw [z0p hm] at e
  simp only [decide_eq_true_eq] at e
  have d:m=c:=z2f b m (eAn hm) c (eAn h) e
  subst d
  show (j:Int)=i
  rw [←z74 b h, ←z74 b hm]
end Go.Am
end
section
namespace Go.Am
open D12
def Kx (l x:List Cd) (i k p q:Nat):Prop:=∃ (u v:Nat) (b a:Cd),x[u]?=some b∧x[v]?=some a∧u<v∧(v<i∨(v=i∧u<k))∧tch b a=true∧l[p]?=some b∧l[q]?=some a
theorem w4z {l x:List Cd} {i k p q:Nat} (s:k<i) {c d:Cd} (r:x[i]?=some c) (o:x[k]?=some d):Kx l x i (k+1) p q↔Kx l x i k p q∨(tch d c=true∧l[p]?=some d∧l[q]?=some c):=by
 constructor
 ·rintro ⟨u,v,n,m,h,g,j,t,f,b,a⟩
  by_cases e:v=i∧u=k
  ·obtain ⟨rfl,rfl⟩:=e
   rw [o] at h; rw [r] at g
   cases h; cases g
   exact .inr ⟨f,b,a⟩
  ·exact .inl ⟨u,v,n,m,h,g,j,by omega,f,b,a⟩
 ·rintro (⟨u,v,n,m,h,g,j,t,f,b,a⟩|⟨f,b,a⟩)
  ·exact ⟨u,v,n,m,h,g,j,by omega,f,b,a⟩
  ·exact ⟨k,i,d,c,o,r,s, .inr ⟨rfl,by omega⟩,f,b,a⟩
theorem v6w {l x:List Cd} {i p q:Nat}:Kx l x i i p q↔Kx l x (i+1) 0 p q:=by
 constructor<;>rintro ⟨u,v,h,g,f,e,d,j,c,b,a⟩<;>exact ⟨u,v,h,g,f,e,d,by omega,c,b,a⟩
theorem x60 {l x:List Cd} {p q:Nat}:¬ Kx l x 0 0 p q:=by
 rintro ⟨u,v,i,h,g,f,e,d,c,b,a⟩; omega
structure y8u (l a b x:List Cd) (Base:Nat→Nat→Prop) (o N od i k:Nat) (h:List AO) (E:List (List AV)) (R:List (List Bool)):Prop where
 mat:Mat h o E R N
 len:R.length=N
 cells:∀ p q,p<N→q<N→(w78 R p q=true↔Base p q∨Kx l x i k p q)
 dk:z0e h od= .row [[.list false 4 (z0a ff0 a)],[.list false 4 (z0a ff0 b)]]
 odn:∀ (j:Nat),E[j]?≠some [AV.slice od 1 0 N (some N)]
 odl:od<h.length
theorem w93 {l a b x:List Cd} {m:Nat→Nat→Prop} {o N t i k:Nat} {h h':List AO} {E:List (List AV)} {R:List (List Bool)} (r:y8u l a b x m o N t i k h E R) (s:(l.map (·.n)).Nodup) (G:k<i) {c d:Cd} (I:x[i]?=some c) (H:x[k]?=some d) (B:tch d c=true) {p q:Nat} (y:l[p]?=some d) (w:l[q]?=some c) (F:q<N) {row:List Bool} (f:R[p]?=some row)
  (K:∀ id,(∀ j:Nat,E[j]?≠some [AV.slice id 1 0 N (some N)])→z0e h' id=z0e h id) (J:h'.length=h.length) (hm:Mat h' o E (R.set p (row.set q true)) N):y8u l a b x m o N t i (k+1) h' E (R.set p (row.set q true)):=by
 obtain ⟨id,_,_,C,_⟩:=r.mat.cell p row f
 refine ⟨hm,by rw [eFz]; exact r.len,fun u v A z=>?_,(K t r.odn).trans r.dk,r.odn,by rw [J]; exact r.odl⟩
 rw [x9e f (by omega),w4z G I H]
 by_cases e:u=p∧v=q
 ·obtain ⟨rfl,rfl⟩:=e
  rw [if_pos ⟨rfl,rfl⟩]
  exact ⟨fun _=> .inr (.inr ⟨B,y,w⟩),fun _=>rfl⟩
 ·rw [if_neg e,r.cells u v A z]
  constructor
  ·rintro (g|g)
   ·exact .inl g
   ·exact .inr (.inl g)
  ·rintro (g|g|⟨O,M,L⟩)
   ·exact .inl g
   ·exact .inr g
   ·exact absurd ⟨(z74 s M).symm.trans (z74 s y),(z74 s L).symm.trans (z74 s w)⟩ e
theorem w49 {l a b x:List Cd} {e:Nat→Nat→Prop} {o N j i k:Nat} {h:List AO} {E:List (List AV)} {R:List (List Bool)} (f:y8u l a b x e o N j i k h E R) (r:k<i) {c d:Cd} (t:x[i]?=some c) (s:x[k]?=some d) (q:tch d c=false):y8u l a b x e o N j i (k+1) h E R:=by
 refine ⟨f.mat,f.len,fun u v p n=>?_,f.dk,f.odn,f.odl⟩
 rw [w4z r t s,f.cells u v p n]
 constructor
 ·rintro (g|g)
  ·exact .inl g
  ·exact .inr (.inl g)
 ·rintro (g|g|⟨m,y,w⟩)
  ·exact .inl g
  ·exact .inr g
  ·rw [q] at m; cases m
theorem w48 {l a b x:List Cd} {c:Nat→Nat→Prop} {o N e i:Nat} {h:List AO} {E:List (List AV)} {R:List (List Bool)} (d:y8u l a b x c o N e i i h E R):y8u l a b x c o N e (i+1) 0 h E R:=
 ⟨d.mat,d.len,fun u v g f=>by rw [d.cells u v g f,v6w],d.dk,d.odn,d.odl⟩
def v54 (L X:List (List D)) (o N a:Nat) (d i:Int):List (Nat×AV):=[(0, .d (.list false 4 L)),(7, .slice o 1 0 N none),(8, .slice a 1 0 2 (some 2)),(9, .d (.int .i64 d)),(10, .d (.list false 4 X)),(11, .d (.int .i64 i))]
def t0a (L X:List (List D)) (o N a:Nat) (d:Int):List (Nat×AV):=[(0, .d (.list false 4 L)),(7, .slice o 1 0 N none),(8, .slice a 1 0 2 (some 2)),(9, .d (.int .i64 d)),(10, .d (.list false 4 X))]
def v6c (L:List (List D)) (o N a:Nat) (d:Int):List (Nat×AV):=[(0, .d (.list false 4 L)),(7, .slice o 1 0 N none),(8, .slice a 1 0 2 (some 2)),(9, .d (.int .i64 d))]
theorem sY95:cdZ 95 w2r= .seq (cdZ 95 (false::w2r)) (.seq (.block 5 (.seq (.region 13 (y2d 95 (false::x8j)) true) (.cond (.tmp 49) (.region 14 (y2d 95 p14) true) .skip))) (cdZ 95 ([true,true]++w2r))):=by kernel_rfl
theorem sX95:cdZ 95 w2s= .seq (cdZ 95 (false::w2s)) (.seq (.block 3 (.seq (cdZ 95 (false::u0j)) (.block 4 (.loop (cdZ 95 w2r))))) (cdZ 95 ([true,true]++w2s))):=by kernel_rfl
theorem sD95:cdZ 95 w2w= .seq (cdZ 95 (false::w2w)) (.seq (.block 1 (.seq (.region 6 (y2d 95 (false::w9e)) false) (.seq (cdZ 95 ([false,true]++w9e)) (.block 2 (.loop (cdZ 95 w2s)))))) (cdZ 95 ([true,true]++w2w))):=by kernel_rfl
theorem v4c:z05 PZ 95 (false::w2r)=some (cdZ 95 (false::w2r)):=by kernel_rfl
theorem u5a:z05 PZ 95 ([true,true]++w2r)=some (cdZ 95 ([true,true]++w2r)):=by kernel_rfl
theorem v4d:z05 PZ 95 (false::w2s)=some (cdZ 95 (false::w2s)):=by kernel_rfl
theorem u5b:z05 PZ 95 ([true,true]++w2s)=some (cdZ 95 ([true,true]++w2s)):=by kernel_rfl
theorem u5h:z05 PZ 95 (false::u0j)=some (cdZ 95 (false::u0j)):=by kernel_rfl
theorem v4h:z05 PZ 95 (false::w2w)=some (cdZ 95 (false::w2w)):=by kernel_rfl
theorem u5i:z05 PZ 95 ([true,true]++w2w)=some (cdZ 95 ([true,true]++w2w)):=by kernel_rfl
theorem u5j:z05 PZ 95 ([false,true]++w9e)=some (cdZ 95 ([false,true]++w9e)):=by kernel_rfl
theorem v3i (w v y z x:AV) (i k:Int) (h:List AO):y4h 95 118 (false::w2r) [(0,w),(7,v),(8,y),(9,z),(10,x),(11, .d (.int .i64 i)),(12, .d (.int .i64 k))] h=opt.ask _ (std.cmp .lss k i)
  (some (.normal,⟨⟨[(38, .d (.bool true)),(37, .d (.int .i64 i)),(36, .d (.int .i64 k)),(0,w),(7,v),(8,y),(9,z),(10,x),(11, .d (.int .i64 i)),(12, .d (.int .i64 k))],h,118⟩,[]⟩))
  (some (.exit 4,⟨⟨[(38, .d (.bool false)),(37, .d (.int .i64 i)),(36, .d (.int .i64 k)),(0,w),(7,v),(8,y),(9,z),(10,x),(11, .d (.int .i64 i)),(12, .d (.int .i64 k))],h,118⟩,[]⟩)):=by kernel_rfl
theorem u2u (w v y z x u:AV) (k:Int) (h:List AO):y4h 95 118 ([true,true]++w2r) [(0,w),(7,v),(8,y),(9,z),(10,x),(11,u),(12, .d (.int .i64 k))] h=
  some (.normal,⟨⟨[(12, .d (.int .i64 (std.ar .add .i64 k 1))),(40, .d (.int .i64 (std.ar .add .i64 k 1))),(39, .d (.int .i64 k)),(0,w),(7,v),(8,y),(9,z),(10,x),(11,u),(12, .d (.int .i64 k))],h,118⟩,[]⟩):=by kernel_rfl
theorem v3j (w v y z:AV) (X:List (List D)) (i:Int) (h:List AO):y4h 95 118 (false::w2s) [(0,w),(7,v),(8,y),(9,z),(10, .d (.list false 4 X)),(11, .d (.int .i64 i))] h=opt.ask _ (std.cmp .lss i (std.ofNat (std.len X)))
  (some (.normal,⟨⟨[(33, .d (.bool true)),(32, .d (.int .i64 (std.ofNat (std.len X)))),(31, .d (.list false 4 X)),(30, .d (.int .i64 i)),(0,w),(7,v),(8,y),(9,z),(10, .d (.list false 4 X)),(11, .d (.int .i64 i))],h,118⟩,[]⟩))
  (some (.exit 2,⟨⟨[(33, .d (.bool false)),(32, .d (.int .i64 (std.ofNat (std.len X)))),(31, .d (.list false 4 X)),(30, .d (.int .i64 i)),(0,w),(7,v),(8,y),(9,z),(10, .d (.list false 4 X)),(11, .d (.int .i64 i))],h,118⟩,[]⟩)):=by kernel_rfl
theorem u2v (w v y z x:AV) (i:Int) (h:List AO):y4h 95 118 ([true,true]++w2s) [(0,w),(7,v),(8,y),(9,z),(10,x),(11, .d (.int .i64 i))] h=
  some (.normal,⟨⟨[(11, .d (.int .i64 (std.ar .add .i64 i 1))),(35, .d (.int .i64 (std.ar .add .i64 i 1))),(34, .d (.int .i64 i)),(0,w),(7,v),(8,y),(9,z),(10,x),(11, .d (.int .i64 i))],h,118⟩,[]⟩):=by kernel_rfl
theorem u3b (w v y z x u:AV) (h:List AO):y4h 95 118 (false::u0j) [(0,w),(7,v),(8,y),(9,z),(10,x),(11,u)] h=some (.normal,⟨⟨[(12, .d (.int .i64 0)),(0,w),(7,v),(8,y),(9,z),(10,x),(11,u)],h,118⟩,[]⟩):=by kernel_rfl
theorem v3n (w v y:AV) (d:Int) (h:List AO):y4h 95 118 (false::w2w) [(0,w),(7,v),(8,y),(9, .d (.int .i64 d))] h=opt.ask _ (std.cmp .lss d 2)
  (some (.normal,⟨⟨[(23, .d (.bool true)),(22, .d (.int .i64 d)),(0,w),(7,v),(8,y),(9, .d (.int .i64 d))],h,118⟩,[]⟩))
  (some (.exit 0,⟨⟨[(23, .d (.bool false)),(22, .d (.int .i64 d)),(0,w),(7,v),(8,y),(9, .d (.int .i64 d))],h,118⟩,[]⟩)):=by kernel_rfl
theorem u3c (w v y:AV) (d:Int) (h:List AO):y4h 95 118 ([true,true]++w2w) [(0,w),(7,v),(8,y),(9, .d (.int .i64 d))] h=
  some (.normal,⟨⟨[(9, .d (.int .i64 (std.ar .add .i64 d 1))),(25, .d (.int .i64 (std.ar .add .i64 d 1))),(24, .d (.int .i64 d)),(0,w),(7,v),(8,y),(9, .d (.int .i64 d))],h,118⟩,[]⟩):=by kernel_rfl
theorem u3d (w v y z x:AV) (h:List AO):y4h 95 118 ([false,true]++w9e) [(0,w),(7,v),(8,y),(9,z),(10,x)] h=some (.normal,⟨⟨[(11, .d (.int .i64 0)),(0,w),(7,v),(8,y),(9,z),(10,x)],h,118⟩,[]⟩):=by kernel_rfl
theorem u4x {l a b x : List Cd} {Base : Nat → Nat → Prop} {o N od i k : Nat} {dd : Int} {h : List AO} {E : List (List AV)} {R : List (List Bool)} (hI : y8u l a b x Base o N od i k h E R) (hl : l.length ≤ 100000) (hN : l.length = N) (hn : (l.map (·.n)).Nodup) (hx : ∀ c ∈ x, c ∈ l) (hf : Few x) (hk : k < i) {c d : Cd} (hc : x[i]? = some c) (hd : x[k]? = some d) {Q : AX → AS → Prop}
    (hQ : ∀ h' R', y8u l a b x Base o N od i (k + 1) h' E R' → Q .normal ⟨x6u (z0a ff0 l) (z0a ff0 x) o N od dd i k, h', 118⟩) :
    z5p PZ 0 (.seq (.region 13 (y2d 95 (false :: x8j)) true) (.cond (.tmp 49) (.region 14 (y2d 95 p14) true) .skip)) ⟨x6u (z0a ff0 l) (z0a ff0 x) o N od dd i k, h, 118⟩ (fun e s => ∃ s', z6n 0 s s' ∧ Q e s') := by
  have htake : (y2d 95 (false :: x8j)).toList.take 9 = [z5r 95 (false :: x8j) 0, z5r 95 (false :: x8j) 1, z5r 95 (false :: x8j) 2, z5r 95 (false :: x8j) 3, z5r 95 (false :: x8j) 4, z5r 95 (false :: x8j) 5, z5r 95 (false :: x8j) 6, z5r 95 (false :: x8j) 7, z5r 95 (false :: x8j) 8] := by kernel_rfl
  refine z00 ?_
  refine y26 (T := EZ.T) follows_mixed hTZ (eBb _) (by kernel_rfl) (by kernel_rfl) (m := 9) (by decide +kernel) (by kernel_rfl)
    (K := fun s1 => s1.heap = h ∧ z0z s1.env 49 = .d (.bool (tch d c)) ∧ w2q (x6u (z0a ff0 l) (z0a ff0 x) o N od dd i k) s1.env) ?_ ?_
  · rw [htake]
    refine dM none 41 10 (.d (.list false 4 (z0a ff0 x))) ?_
    refine dM none 42 12 (.d (.int .i64 (k : Int))) ?_
    refine dsZ (dst := some 43) (op := .indexAddr 22 (.tmp 41) (.tmp 42)) ⟨by kernel_rfl, by kernel_rfl, by kernel_rfl⟩ (q := false) (r := eC0 d) (ra := []) (res := ⟨std.cmp .geq (k : Int) 0, .lptr (eC0 d) 0, []⟩) (by kernel_rfl) (y2g rfl rfl (y5k hd)) (w96 rfl rfl) (by rw [z88]; exact decide_eq_true (show (k : Int) ≥ 0 by omega)) rfl (by intro id hid; cases hid) ?_
    refine dsZ (dst := some 44) (op := .load 29 (.tmp 43)) ⟨by kernel_rfl, by kernel_rfl, by kernel_rfl⟩ (q := false) (r := []) (ra := []) (res := ⟨true, .d (.agg (eC0 d)), []⟩) (by kernel_rfl) trivial (t5j rfl) rfl rfl (by intro id hid; cases hid) ?_
    refine dM none 45 10 (.d (.list false 4 (z0a ff0 x))) ?_
    refine dM none 46 11 (.d (.int .i64 (i : Int))) ?_
    refine dsZ (dst := some 47) (op := .indexAddr 22 (.tmp 45) (.tmp 46)) ⟨by kernel_rfl, by kernel_rfl, by kernel_rfl⟩ (q := false) (r := eC0 c) (ra := []) (res := ⟨std.cmp .geq (i : Int) 0, .lptr (eC0 c) 0, []⟩) (by kernel_rfl) (y2g rfl rfl (y5k hc)) (w96 rfl rfl) (by rw [z88]; exact decide_eq_true (show (i : Int) ≥ 0 by omega)) rfl (by intro id hid; cases hid) ?_
    refine dsZ (dst := some 48) (op := .load 29 (.tmp 47)) ⟨by kernel_rfl, by kernel_rfl, by kernel_rfl⟩ (q := false) (r := []) (ra := []) (res := ⟨true, .d (.agg (eC0 c)), []⟩) (by kernel_rfl) trivial (t5j rfl) rfl rfl (by intro id hid; cases hid) ?_
    refine dsC (dst := some 49) (g := 44) (args := #[.tmp 44, .tmp 48]) (ts := #[29, 29]) ⟨by kernel_rfl, by kernel_rfl, by kernel_rfl⟩ (by kernel_rfl) v0s (r := .d (.bool (tch d c))) (fun h => a44 d c (hf d (eAn hd)) (hf c (eAn hc)) h) rfl (by intro id hid; cases hid) ?_
    refine .nil ⟨rfl, rfl, z4j fun x hx => ?_⟩
    simp only [x6u, eBa, eCl, or_false] at hx
    rcases hx with rfl | rfl | rfl | rfl | rfl | rfl | rfl <;> rfl
  · rintro ⟨env1, h1, nt1⟩ ⟨rfl, g49, hle⟩ hnt _
    have hnt : nt1 = 118 := hnt
    subst hnt
    have hrg : List.range' 9 ((y2d 95 (false :: x8j)).size - 9) = [] := by kernel_rfl
    rw [hrg]
    refine z6q ?_
    refine y7o (t := tch d c) g49 ?_
    refine z1d (s' := ⟨x6u (z0a ff0 l) (z0a ff0 x) o N od dd i k, h1, 118⟩) (z6n.env (n := 0) (s := ⟨env1, h1, 118⟩) hle) ?_
    cases ht : tch d c with
    | false =>
      rw [if_neg (by simp)]
      exact x44 ⟨_, z6n.refl _ _, hQ h1 R (w49 hI hk hc hd ht)⟩
    | true =>
      rw [if_pos rfl]
      obtain ⟨p, hpl, hpe⟩ := eBs.1 (hx d (eAn hd))
      obtain ⟨q, hql, hqe⟩ := eBs.1 (hx c (eAn hc))
      have hp : l[p]? = some d := by rw [eAd hpl, hpe]
      have hq : l[q]? = some c := by rw [eAd hql, hqe]
      have hRl := hI.len
      obtain ⟨row, hrow⟩ := z0d (l := R) (i := p) (by omega)
      exact u4w hI.mat (by omega) hc hd (y5l hn hp) (y5l hn hq) (by omega) (by omega) hrow fun h2 e1 e2 hm2 => hQ h2 _ (w93 hI hn hk hc hd ht hp hq (by omega) hrow e1 e2 hm2)
theorem v6e {l a b x:List Cd} {j:Nat→Nat→Prop} {o N f i:Nat} {m:Int} {h:List AO} {E:List (List AV)} {R:List (List Bool)} (J:y8u l a b x j o N f i 0 h E R) (B:l.length≤100000) (H:l.length=N) (A:(l.map (·.n)).Nodup) (z:∀ c∈x,c∈l) (C:Few x) (y:x.length≤100000) (P:i<x.length) {Q:AX→AS→Prop}
  (G:∀ h' M,y8u l a b x j o N f (i+1) 0 h' E M→Q (.exit 4) ⟨v54 (z0a ff0 l) (z0a ff0 x) o N f m i,h',118⟩):
  z5p PZ 0 (.loop (cdZ 95 w2r)) ⟨x6u (z0a ff0 l) (z0a ff0 x) o N f m i ((0:Nat):Int),h,118⟩ Q:=by
 let ι:={ g:Nat×List AO×List (List Bool) // g.1≤i∧y8u l a b x j o N f i g.1 g.2.1 E g.2.2 }
 let I:ι→AS:=fun g=>⟨x6u (z0a ff0 l) (z0a ff0 x) o N f m i (g.1.1:Nat),g.1.2.1,118⟩
 refine z7e (ι:=ι) I (fun g=>i - g.1.1) (fun _ _=>rfl) ?_ ⟨(0,h,R),eBb _,J⟩
 rintro ⟨⟨k,t,L⟩,O,r⟩
 rw [sY95]
 refine z00 ?_
 by_cases p:k<i
 ·have q:std.cmp .lss ((k:Nat):Int) (i:Int)=true:=by rw [z3y]; exact decide_eq_true (by omega)
  refine (y1b v4c ((v3i (.d (.list false 4 (z0a ff0 l))) (.slice o 1 0 N none) (.slice f 1 0 2 (some 2)) (.d (.int .i64 m)) (.d (.list false 4 (z0a ff0 x))) i k t).trans (by rw [q]; rfl))).mono ?_
  rintro e s ⟨rfl,rfl⟩
  obtain ⟨c,q⟩:=z0d (l:=x) (i:=i) (by omega)
  obtain ⟨d,F⟩:=z0d (l:=x) (i:=k) (by omega)
  refine z1d (s':=⟨x6u (z0a ff0 l) (z0a ff0 x) o N f m i k,t,118⟩) (z5q rfl) (z00 (z1f (z1g ?_)))
  refine u4x r B H A z C p q F fun w K v=>?_
  refine z1g ((y1b u5a (u2u (.d (.list false 4 (z0a ff0 l))) (.slice o 1 0 N none) (.slice f 1 0 2 (some 2)) (.d (.int .i64 m)) (.d (.list false 4 (z0a ff0 x))) (.d (.int .i64 i)) k w)).mono ?_)
  rintro e s ⟨rfl,rfl⟩
  rw [wrZ (i:=k) (by omega)]
  exact ⟨⟨x6u (z0a ff0 l) (z0a ff0 x) o N f m i ((k+1:Nat):Int),w,118⟩,z5q rfl,⟨⟨(k+1,w,K),p,v⟩,rfl,by show i - (k+1)<i - k; omega⟩⟩
 ·have q:std.cmp .lss ((k:Nat):Int) (i:Int)=false:=by rw [z3y]; exact decide_eq_false (by omega)
  have u:k=i:=by omega
  subst u
  refine z1g ((y1b v4c ((v3i (.d (.list false 4 (z0a ff0 l))) (.slice o 1 0 N none) (.slice f 1 0 2 (some 2)) (.d (.int .i64 m)) (.d (.list false 4 (z0a ff0 x))) k k t).trans (by rw [q]; rfl))).mono ?_)
  rintro e s ⟨rfl,rfl⟩
  exact ⟨⟨v54 (z0a ff0 l) (z0a ff0 x) o N f m k,t,118⟩,z5q rfl,G t L (w48 r)⟩
theorem v6f {l a b x:List Cd} {k:Nat→Nat→Prop} {o N f:Nat} {j:Int} {h:List AO} {E:List (List AV)} {R:List (List Bool)} (H:y8u l a b x k o N f 0 0 h E R) (B:l.length≤100000) (G:l.length=N) (A:(l.map (·.n)).Nodup) (z:∀ c∈x,c∈l) (C:Few x) (t:x.length≤100000) {Q:AX→AS→Prop}
  (F:∀ h' L,y8u l a b x k o N f x.length 0 h' E L→Q (.exit 2) ⟨t0a (z0a ff0 l) (z0a ff0 x) o N f j,h',118⟩):
  z5p PZ 0 (.loop (cdZ 95 w2s)) ⟨v54 (z0a ff0 l) (z0a ff0 x) o N f j ((0:Nat):Int),h,118⟩ Q:=by
 let ι:={ g:Nat×List AO×List (List Bool) // g.1≤x.length∧y8u l a b x k o N f g.1 0 g.2.1 E g.2.2 }
 let I:ι→AS:=fun g=>⟨v54 (z0a ff0 l) (z0a ff0 x) o N f j (g.1.1:Nat),g.1.2.1,118⟩
 refine z7e (ι:=ι) I (fun g=>x.length - g.1.1) (fun _ _=>rfl) ?_ ⟨(0,h,R),eBb _,H⟩
 rintro ⟨⟨i,m,K⟩,M,r⟩
 rw [sX95]
 refine z00 ?_
 have q:std.ofNat (std.len (z0a ff0 x))=(x.length:Int):=by rw [z4s,z7z,z0r]
 by_cases p:i<x.length
 ·have v:std.cmp .lss ((i:Nat):Int) (std.ofNat (std.len (z0a ff0 x)))=true:=by rw [q,z3y]; exact decide_eq_true (by omega)
  refine (y1b v4d ((v3j (.d (.list false 4 (z0a ff0 l))) (.slice o 1 0 N none) (.slice f 1 0 2 (some 2)) (.d (.int .i64 j)) (z0a ff0 x) i m).trans (by rw [v]; rfl))).mono ?_
  rintro e s ⟨rfl,rfl⟩
  refine z1d (s':=⟨v54 (z0a ff0 l) (z0a ff0 x) o N f j i,m,118⟩) (z5q rfl) (z00 (z1f (z00 ((y1b u5h (u3b (.d (.list false 4 (z0a ff0 l))) (.slice o 1 0 N none) (.slice f 1 0 2 (some 2)) (.d (.int .i64 j)) (.d (.list false 4 (z0a ff0 x))) (.d (.int .i64 i)) m)).mono ?_))))
  rintro e s ⟨rfl,rfl⟩
  refine z1d (s':=⟨x6u (z0a ff0 l) (z0a ff0 x) o N f j i ((0:Nat):Int),m,118⟩) (z5q rfl) (z1f ?_)
  refine v6e r B G A z C t p fun y J w=>?_
  simp only [if_true]
  refine z1g ((y1b u5b (u2v (.d (.list false 4 (z0a ff0 l))) (.slice o 1 0 N none) (.slice f 1 0 2 (some 2)) (.d (.int .i64 j)) (.d (.list false 4 (z0a ff0 x))) i y)).mono ?_)
  rintro e s ⟨rfl,rfl⟩
  rw [wrZ (i:=i) (by omega)]
  exact ⟨⟨v54 (z0a ff0 l) (z0a ff0 x) o N f j ((i+1:Nat):Int),y,118⟩,z5q rfl,⟨⟨(i+1,y,J),p,w⟩,rfl,by show x.length - (i+1)<x.length - i; omega⟩⟩
 ·have v:std.cmp .lss ((i:Nat):Int) (std.ofNat (std.len (z0a ff0 x)))=false:=by rw [q,z3y]; exact decide_eq_false (by omega)
  have u:i=x.length:=by omega
  subst u
  refine z1g ((y1b v4d ((v3j (.d (.list false 4 (z0a ff0 l))) (.slice o 1 0 N none) (.slice f 1 0 2 (some 2)) (.d (.int .i64 j)) (z0a ff0 x) (x.length:Int) m).trans (by rw [v]; rfl))).mono ?_)
  rintro e s ⟨rfl,rfl⟩
  exact ⟨⟨t0a (z0a ff0 l) (z0a ff0 x) o N f j,m,118⟩,z5q rfl,F m K r⟩
def v9x:TI:=⟨1,24,false,[.list true 0 []], .slc 22 1 24 false [.list true 0 []],none⟩
theorem w3b:EZ.T 144=some v9x:=by kernel_rfl
theorem u1o {env:List (Nat×AV)} {h:List AO} {new a b o M x:Nat} {c:Option Nat} (g:z0z env a= .slice o 1 0 M c) (f:z0z env b= .d (.int .i64 (x:Int))):
  z0t std EZ.T gZ env h new false [] [] (.indexAddr 144 (.tmp a) (.tmp b))=some ⟨std.cmp .geq (x:Int) 0&&std.cmp .lss (x:Int) (std.ofNat M), .ptr o x 0,[]⟩:=by
 simp only [z0t,w3b,z0m,z6t,g,f]
 have e:(.ptr o (0+x) 0:AV)= .ptr o x 0:=by rw [eAy]
 exact congrArg (fun y=>some (⟨_,y,[]⟩:Res)) e
theorem w8l {env:List (Nat×AV)} {h:List AO} {a id x:Nat} {es:List (List D)} {r:List D} (d:z0z env a= .ptr id x 0) (b:z0e h id= .row es) (c:es[x]?=some r):(z1b std EZ.T env h (.load 22 (.tmp a))).ok false r []:=by
 simp only [z1b,z0m,d,z93,z6h,b,x7u.ok]
 exact ⟨_,c,y4a.refl _⟩
theorem ld22 {env:List (Nat×AV)} {h:List AO} {new a id x:Nat} {es X:List (List D)} (c:z0z env a= .ptr id x 0) (b:z0e h id= .row es):
  z0t std EZ.T gZ env h new false [.list false 4 X] [] (.load 22 (.tmp a))=some ⟨true, .d (.list false 4 X),[]⟩:=by
 simp only [z0t,w3a,z6t,z0m,c,z93,z2z,b,v5a,part]
 rfl
def x7y (a b:List Cd) (d:Nat):List Cd:=if d=0 then a else b
def x2q (l a b:List Cd):Nat→Nat→Nat→Prop
 |0=>fun _ _=>False
 |d+1=>fun p q=>x2q l a b d p q∨Kx l (x7y a b d) (x7y a b d).length 0 p q
theorem w47 {l a b x:List Cd} {o N e d:Nat} {h:List AO} {E:List (List AV)} {R:List (List Bool)} (c:y8u l a b x (x2q l a b d) o N e x.length 0 h E R) (f:x=x7y a b d) (y:List Cd):y8u l a b y (x2q l a b (d+1)) o N e 0 0 h E R:=by
 refine ⟨c.mat,c.len,fun p q j i=>?_,c.dk,c.odn,c.odl⟩
 rw [c.cells p q j i]
 subst f
 constructor
 ·intro g; exact .inl g
 ·rintro (g|g)
  ·exact g
  ·exact absurd g x60
theorem v6k {l a b:List Cd} {o N j:Nat} {h:List AO} {E:List (List AV)} {R:List (List Bool)} (W:y8u l a b a (x2q l a b 0) o N j 0 0 h E R) (M:l.length≤100000) (V:l.length=N) (L:(l.map (·.n)).Nodup) (ha:∀ c∈a,c∈l) (hb:∀ c∈b,c∈l) (P:Few a) (O:Few b) (T:a.length≤100000) (S:b.length≤100000) {Q:AX→AS→Prop}
  (U:∀ h' Y,y8u l a b (x7y a b 2) (x2q l a b 2) o N j 0 0 h' E Y→Q (.exit 0) ⟨v6c (z0a ff0 l) o N j 2,h',118⟩):
  z5p PZ 0 (.loop (cdZ 95 w2w)) ⟨v6c (z0a ff0 l) o N j ((0:Nat):Int),h,118⟩ Q:=by
 let ι:={ g:Nat×List AO×List (List Bool) // g.1≤2∧y8u l a b (x7y a b g.1) (x2q l a b g.1) o N j 0 0 g.2.1 E g.2.2 }
 let I:ι→AS:=fun g=>⟨v6c (z0a ff0 l) o N j (g.1.1:Nat),g.1.2.1,118⟩
 refine z7e (ι:=ι) I (fun g=>2 - g.1.1) (fun _ _=>rfl) ?_ ⟨(0,h,R),eBb _,W⟩
 rintro ⟨⟨d,t,H⟩,hd,k⟩
 rw [sD95]
 refine z00 ?_
 by_cases z:d<2
 ·have F:std.cmp .lss ((d:Nat):Int) 2=true:=by rw [z3y]; exact decide_eq_true (by omega)
  refine (y1b v4h ((v3n (.d (.list false 4 (z0a ff0 l))) (.slice o 1 0 N none) (.slice j 1 0 2 (some 2)) d t).trans (by rw [F]; rfl))).mono ?_
  rintro e s ⟨rfl,rfl⟩
  have k:y8u l a b (x7y a b d) (x2q l a b d) o N j 0 0 t E H:=k
  have w:∀ c∈x7y a b d,c∈l:=by unfold x7y; split<;>assumption
  have y:Few (x7y a b d):=by unfold x7y; split<;>assumption
  have v:(x7y a b d).length≤100000:=by unfold x7y; split<;>assumption
  have m:[[D.list false 4 (z0a ff0 a)],[D.list false 4 (z0a ff0 b)]][d]?=some [.list false 4 (z0a ff0 (x7y a b d))]:=by
   have:d=0∨d=1:=by omega
   rcases this with rfl|rfl<;>rfl
  have B:eAv (y2d 95 (false::w9e)).size=[0,1,2,3,4]:=by kernel_rfl
  obtain ⟨w2,K⟩:=y1c (f:=95) (p:=false::w9e) (i:=2) (dst:=some 28) (op:= .indexAddr 144 (.tmp 26) (.tmp 27)) (by kernel_rfl)
  obtain ⟨Z,J⟩:=y1c (f:=95) (p:=false::w9e) (i:=3) (dst:=some 29) (op:= .load 22 (.tmp 28)) (by kernel_rfl)
  obtain ⟨x,u⟩:∃ x,x7y a b d=x:=⟨_,rfl⟩
  rw [u] at k w y v m
  refine z00 (z1f (z00 (z7d ?_)))
  rw [B]
  refine oM 26 (.move (.tmp 8)) (.slice j 1 0 2 (some 2)) ?_
  refine oM 27 (.move (.tmp 9)) (.d (.int .i64 (d:Int))) ?_
  refine osZ K (q:=false) (r:=[]) (ra:=[]) (res:=⟨std.cmp .geq (d:Int) 0&&std.cmp .lss (d:Int) (std.ofNat 2), .ptr j d 0,[]⟩) trivial (u1o rfl rfl) (x45 z) rfl ?_
  refine osZ J (q:=false) (r:=[.list false 4 (z0a ff0 x)]) (ra:=[]) (res:=⟨true, .d (.list false 4 (z0a ff0 x)),[]⟩) (w8l rfl k.dk m) (ld22 rfl k.dk) rfl rfl ?_
  refine oM 10 (.assign (.tmp 29)) (.d (.list false 4 (z0a ff0 x))) ?_
  refine z6q ?_
  refine z1d (s':=⟨t0a (z0a ff0 l) (z0a ff0 x) o N j d,t,118⟩) (z5q rfl) ?_
  refine z00 ((y1b u5j (u3d (.d (.list false 4 (z0a ff0 l))) (.slice o 1 0 N none) (.slice j 1 0 2 (some 2)) (.d (.int .i64 d)) (.d (.list false 4 (z0a ff0 x))) t)).mono ?_)
  rintro e s ⟨rfl,rfl⟩
  refine z1d (s':=⟨v54 (z0a ff0 l) (z0a ff0 x) o N j d ((0:Nat):Int),t,118⟩) (z5q rfl) (z1f ?_)
  refine v6f k M V L w y v fun A X G=>?_
  simp only [if_true]
  refine z1d (s':=⟨v6c (z0a ff0 l) o N j d,A,118⟩) (z5q rfl) ?_
  refine z1g ((y1b u5i (u3c (.d (.list false 4 (z0a ff0 l))) (.slice o 1 0 N none) (.slice j 1 0 2 (some 2)) d A)).mono ?_)
  rintro e s ⟨rfl,rfl⟩
  rw [wrZ (i:=d) (by omega)]
  exact ⟨⟨v6c (z0a ff0 l) o N j ((d+1:Nat):Int),A,118⟩,z5q rfl,⟨⟨(d+1,A,X),z,w47 G u.symm _⟩,rfl,by show 2 - (d+1)<2 - d; omega⟩⟩
 ·have F:std.cmp .lss ((d:Nat):Int) 2=false:=by rw [z3y]; exact decide_eq_false (by omega)
  have C:d=2:=by omega
  subst C
  refine z1g ((y1b v4h ((v3n (.d (.list false 4 (z0a ff0 l))) (.slice o 1 0 N none) (.slice j 1 0 2 (some 2)) ((2:Nat):Int) t).trans (by rw [F]; rfl))).mono ?_)
  rintro e s ⟨rfl,rfl⟩
  exact ⟨⟨v6c (z0a ff0 l) o N j 2,t,118⟩,z5q rfl,U t H k⟩
theorem Mat.more {h h':List AO} {o N:Nat} {E:List (List AV)} {R:List (List Bool)} (hm:Mat h o E R N) (i:h.length≤h'.length) (f:∀ id,id<h.length→z0e h' id=z0e h id):Mat h' o E R N:=
 ⟨by have:=hm.olt; omega,by rw [f _ hm.olt]; exact hm.arr,hm.len,fun j row g=>by
  obtain ⟨id,a,b,c,d,e⟩:=hm.cell j row g
  exact ⟨id,a,by rw [f _ e]; exact b,c,d,by omega⟩,hm.inj⟩
theorem u0y {env:List (Nat×AV)} {h:List AO} {new x y:Nat} {A B:List (List D)} (b:z0z env x= .d (.list false 4 A)) (a:z0z env y= .d (.list false 4 B)):
  z0t std EZ.T gZ env h new false [] [] (.buildSlice 144 2 #[(0, .tmp x),(1, .tmp y)])=some ⟨true, .slice new 1 0 2 (some 2),[(new, .row [[.list false 4 A],[.list false 4 B]])]⟩:=by
 simp only [z0t,w3b]
 show z29 v9x new 2 [(0,z0z env x),(1,z0z env y)] []=_
 rw [b,a]; rfl
theorem v3b {l x:List Cd} (h:x.Nodup) {p q:Nat} {c d:Cd} (j:l[p]?=some c) (i:l[q]?=some d):Kx l x x.length 0 p q↔c∈x∧d∈x∧ord x c d=true:=by
 constructor
 ·rintro ⟨u,v,z,y,g,f,b,_,r,m,k⟩
  rw [j] at m; rw [i] at k
  cases m; cases k
  obtain ⟨e,o⟩:=eAe.1 g
  obtain ⟨a,n⟩:=eAe.1 f
  refine ⟨by rw [←o]; exact eDe e,by rw [←n]; exact eDe a,z6k.2 ⟨r,?_⟩⟩
  have w:x.idxOf c=u:=by rw [←o]; exact h.idxOf_getElem u e
  have t:x.idxOf d=v:=by rw [←n]; exact h.idxOf_getElem v a
  omega
 ·rintro ⟨g,f,b⟩
  obtain ⟨b,s⟩:=z6k.1 b
  have e:=eDc g
  have a:=eDc f
  exact ⟨x.idxOf c,x.idxOf d,c,d,by rw [eAd e,eGk],by rw [eAd a,eGk],s, .inl a,b,j,i⟩
theorem w18 {l a b:List Cd} (h:a.Nodup) (g:b.Nodup) {p q:Nat} {c d:Cd} (f:l[p]?=some c) (e:l[q]?=some d):x2q l a b 2 p q↔y0h a b c d=true:=by
 show ((False∨Kx l a a.length 0 p q)∨Kx l b b.length 0 p q)↔_
 rw [v3b h f e,v3b g f e,z8u,false_or]
theorem s95:cdZ 95 []= .seq (cdZ 95 [false]) (.seq (.region 1 (y2d 95 [false,true]) false) (.seq (.region 2 (y2d 95 [false,true,true]) false) (.seq (.seq (cdZ 95 [false,false,true,true,true]) (.block 0 (.loop (cdZ 95 w2w)))) (.seq (.seq (cdZ 95 [false,false,true,true,true,true]) (.block 6 (.loop (cdZ 95 w2t)))) (cdZ 95 [true,true,true,true,true]))))):=by kernel_rfl
theorem t3p:z05 PZ 95 [false]=some (cdZ 95 [false]):=by kernel_rfl
theorem t3m:z05 PZ 95 [false,false,true,true,true]=some (cdZ 95 [false,false,true,true,true]):=by kernel_rfl
theorem u5m:z05 PZ 95 [false,false,true,true,true,true]=some (cdZ 95 [false,false,true,true,true,true]):=by kernel_rfl
theorem u5l:z05 PZ 95 [true,true,true,true,true]=some (cdZ 95 [true,true,true,true,true]):=by kernel_rfl
theorem t3d (x y z:AV):y4h 95 118 [false] [(0,x),(1,y),(2,z)] []=some (.normal,⟨⟨[(6, .d (.list true 0 [])),(0,x),(1,y),(2,z)],[],118⟩,[]⟩):=by kernel_rfl
theorem t3a (x v y:AV) (h:List AO):y4h 95 118 [false,false,true,true,true] [(0,x),(7,v),(8,y)] h=some (.normal,⟨⟨[(9, .d (.int .i64 0)),(0,x),(7,v),(8,y)],h,118⟩,[]⟩):=by kernel_rfl
theorem u3g (x v:AV) (h:List AO):y4h 95 118 [false,false,true,true,true,true] [(0,x),(7,v)] h=some (.normal,⟨⟨[(13, .d (.int .i64 0)),(0,x),(7,v)],h,118⟩,[]⟩):=by kernel_rfl
theorem u3f (x:AV) (d:D) (h:List AO):y4h 95 118 [true,true,true,true,true] [(0,x),(7, .d d)] h=some (.ret,⟨⟨[(6, .d d),(117, .d d),(0,x),(7, .d d)],h,118⟩,[]⟩):=by kernel_rfl
theorem fn95:∃ fn,PZ.funcs[95]?=some fn∧fn.body=some (cdZ 95 [])∧fn.ntmps=118∧fn.results.toList=[.tmp 6]:=by
 have:(PZ.funcs[95]?.map fun fn=>(fn.body,fn.ntmps,fn.results.toList))=some (some (cdZ 95 []),118,[.tmp 6]):=by kernel_rfl
 cases a:PZ.funcs[95]? with
 |none=>rw [a] at this; cases this
 |some fn=>
  rw [a] at this
  simp only [eBo,Option.some.injEq,Prod.mk.injEq] at this
  exact ⟨fn,rfl,this.1,this.2.1,this.2.2⟩
theorem v0p:z3g PZ 95:=enters_auto (b:=_) rfl (by kernel_rfl)
theorem u3i {env:List (Nat×AV)} {x d:D} (he:z0z env 0= .d d) (t:Nat):z0z [(0, .d d),(7, .d x)] t= .bot∨(t=7∧z0z [(0, .d d),(7, .d x)] t= .d x)∨∃ e,z0z [(0, .d d),(7, .d x)] t= .d e∧z0z env t= .d e:=by
 by_cases c:t=0
 ·subst c; exact .inr (.inr ⟨_,rfl,he⟩)
 ·by_cases b:t=7
  ·subst b; exact .inr (.inl ⟨rfl,rfl⟩)
  ·left
   have g:eAk 0 t=false:=by
    cases a:eAk 0 t with
    |false=>rfl
    |true=>exact absurd (eAg a).symm c
   have f:eAk 7 t=false:=by
    cases a:eAk 7 t with
    |false=>rfl
    |true=>exact absurd (eAg a).symm b
   simp only [z0z,g,f]; rfl
theorem w46 {l a b:List Cd} (d:0<l.length):y8u l a b a (x2q l a b 0) (3*l.length - 1) l.length (3*l.length) 0 0 (z04 (hpT l.length l.length) (3*l.length) (.row [[.list false 4 (z0a ff0 a)],[.list false 4 (z0a ff0 b)]])) (z9c l.length l.length) (eAu l.length (eAu l.length false)):=by
 have c:=(u2l l.length l.length).len
 have i:=y6k c (.row [[.list false 4 (z0a ff0 a)],[.list false 4 (z0a ff0 b)]])
 refine ⟨(mat0 d).more (by omega) fun id hid=>z0c _ _ _ _ (by omega),by simp,fun p q f e=>?_,z0g _ _ _,fun j h=>?_,by omega⟩
 ·constructor
  ·intro h
   exfalso
   unfold w78 at h
   rw [eAr (l:=eAu _ _),eCs,if_pos f] at h
   simp [eAr,eCs,e] at h
  ·rintro (h|h)
   ·exact absurd h id
   ·exact absurd h x60
 ·unfold z9c at h
  rw [eAj] at h
  by_cases g:j<l.length
  ·rw [List.getElem?_range g] at h
   simp only [eBo,Option.some.injEq,List.cons.injEq,AV.slice.injEq,and_true,true_and] at h
   omega
  ·rw [eDv (by simp; omega)] at h; cases h
noncomputable def orcZ:Orc opt:=u0k opt std [] [] []
theorem w2l:z3s PZ 95 [.d (.list false 4 []), .d (.list false 4 []), .d (.list false 4 [])] [] (.d (.list false 1 [])) []:=
 x2j (O:=orcZ) (f:=400) hEZ (x6m (fun cf h=>by cases h) _ _) (by kernel_rfl)
theorem u5u {l a b:List Cd} (hl:l.length≤1000) (Z:(l.map (·.n)).Nodup) (Q:∀ c∈a,c∈l) (P:∀ c∈b,c∈l) (F:Few a) (E:Few b) (M:a.length≤100000) (H:b.length≤100000) (K:a.Nodup) (G:b.Nodup):
  z3s PZ 95 [.d (.list false 4 (z0a ff0 l)), .d (.list false 4 (z0a ff0 a)), .d (.list false 4 (z0a ff0 b))] [] (.d (.list false 1 (z2y (z3w l (clo (y0h a b) l))))) []:=by
 rcases Nat.eq_zero_or_pos l.length with v|v
 ·have B:l=[]:=eBw.1 v
  subst B
  have N:a=[]:=List.eq_nil_iff_forall_not_mem.2 fun c k=>by cases Q c k
  have J:b=[]:=List.eq_nil_iff_forall_not_mem.2 fun c k=>by cases P c k
  subst N; subst J
  exact w2l
 ·obtain ⟨fn,C,I,z,s⟩:=fn95
  refine y0r hTZ C I z (by show 3≤118; omega) ?_
  rw [s,s95]
  refine z00 ((y1b t3p (t3d (.d (.list false 4 (z0a ff0 l))) (.d (.list false 4 (z0a ff0 a))) (.d (.list false 4 (z0a ff0 b))))).mono ?_)
  rintro e s1 ⟨rfl,rfl⟩
  have y:eAv (y2d 95 [false,true]).size=[0,1,2,3]:=by kernel_rfl
  obtain ⟨w1,V⟩:=y1c (f:=95) (p:=[false,true]) (i:=1) (dst:=some 17) (op:= .call ⟨.builtin .len,#[.tmp 16],#[22]⟩) (by kernel_rfl)
  obtain ⟨w2,U⟩:=y1c (f:=95) (p:=[false,true]) (i:=2) (dst:=some 18) (op:= .call ⟨.value (.func 68),#[.tmp 17],#[3]⟩) (by kernel_rfl)
  have A:std.ofNat (std.len (z0a ff0 l))=(l.length:Int):=by rw [z4s,z7z,z0r]
  refine z00 (z7d ?_)
  rw [y]
  refine oM 16 (.move (.tmp 0)) (.d (.list false 4 (z0a ff0 l))) ?_
  refine osZ V (q:=false) (r:=[]) (ra:=[]) (res:=⟨true, .d (.int .i64 (l.length:Int)),[]⟩) trivial (by refine Eq.trans (t0d (L:=z0a ff0 l) rfl) ?_; rw [A]) rfl rfl ?_
  refine ocZ U v0r (u5v (n:=l.length) (by omega)) (eBb _) rfl ?_
  have w:w08 l.length= .slice (3*l.length - 1) 1 0 l.length none:=if_neg (by omega)
  refine oM 7 (.assign (.tmp 18)) (w08 l.length) ?_
  refine z6q ?_
  rw [w]
  refine z1d (s':=⟨[(0, .d (.list false 4 (z0a ff0 l))),(1, .d (.list false 4 (z0a ff0 a))),(2, .d (.list false 4 (z0a ff0 b))),(7, .slice (3*l.length - 1) 1 0 l.length none)],hpT l.length l.length,118⟩) (z5q rfl) ?_
  have x:eAv (y2d 95 [false,true,true]).size=[0,1,2,3]:=by kernel_rfl
  obtain ⟨w6,T⟩:=y1c (f:=95) (p:=[false,true,true]) (i:=2) (dst:=some 21) (op:= .buildSlice 144 2 #[(0, .tmp 19),(1, .tmp 20)]) (by kernel_rfl)
  have W:=(u2l l.length l.length).len
  refine z00 (z7d ?_)
  rw [x]
  refine oM 19 (.move (.tmp 1)) (.d (.list false 4 (z0a ff0 a))) ?_
  refine oM 20 (.move (.tmp 2)) (.d (.list false 4 (z0a ff0 b))) ?_
  refine osZ T (q:=false) (r:=[]) (ra:=[]) (res:=⟨true, .slice (3*l.length) 1 0 2 (some 2),[(3*l.length, .row [[.list false 4 (z0a ff0 a)],[.list false 4 (z0a ff0 b)]])]⟩) trivial ((u0y rfl rfl).trans (by
   show some (⟨true, .slice (hpT l.length l.length).length 1 0 2 (some 2),[((hpT l.length l.length).length, .row [[.list false 4 (z0a ff0 a)],[.list false 4 (z0a ff0 b)]])]⟩:Res)=_
   rw [W])) rfl rfl ?_
  refine oM 8 (.assign (.tmp 21)) (.slice (3*l.length) 1 0 2 (some 2)) ?_
  refine z6q ?_
  refine z1d (s':=⟨[(0, .d (.list false 4 (z0a ff0 l))),(7, .slice (3*l.length - 1) 1 0 l.length none),(8, .slice (3*l.length) 1 0 2 (some 2))],z04 (hpT l.length l.length) (3*l.length) (.row [[.list false 4 (z0a ff0 a)],[.list false 4 (z0a ff0 b)]]),118⟩) (z5q rfl) ?_
  have R:=w46 (a:=a) (b:=b) v
  generalize z04 (hpT l.length l.length) (3*l.length) (.row [[.list false 4 (z0a ff0 a)],[.list false 4 (z0a ff0 b)]])=S at R⊢
  refine z00 (z00 ((y1b t3m (t3a (.d (.list false 4 (z0a ff0 l))) (.slice (3*l.length - 1) 1 0 l.length none) (.slice (3*l.length) 1 0 2 (some 2)) S)).mono ?_))
  rintro e s1 ⟨rfl,rfl⟩
  refine z1d (s':=⟨v6c (z0a ff0 l) (3*l.length - 1) l.length (3*l.length) ((0:Nat):Int),S,118⟩) (z5q rfl) (z1f ?_)
  refine v6k R (by omega) rfl Z Q P F E M H fun u R3 m=>?_
  simp only [if_true]
  have O:x5o l (y0h a b) (3*l.length - 1) l.length 0 0 0 u (z9c l.length l.length) R3:=by
   refine ⟨m.mat,m.len,fun p q c d k t=>?_⟩
   have Y:=(eAe.1 k).1
   have X:=(eAe.1 t).1
   rw [if_neg (by omega),eBu,m.cells p q Y X, ←w18 K G k t]
   constructor
   ·rintro (h|h)
    ·exact h
    ·exact absurd h x60
   ·exact .inl
  refine z1d (s':=⟨[(0, .d (.list false 4 (z0a ff0 l))),(7, .slice (3*l.length - 1) 1 0 l.length none)],u,118⟩) (z5q rfl) ?_
  refine z00 (z00 ((y1b u5m (u3g (.d (.list false 4 (z0a ff0 l))) (.slice (3*l.length - 1) 1 0 l.length none) u)).mono ?_))
  rintro e s1 ⟨rfl,rfl⟩
  refine z1d (s':=⟨w9j (z0a ff0 l) (3*l.length - 1) l.length ((0:Nat):Int),u,118⟩) (z5q rfl) (z1f ?_)
  refine v6g (by omega) rfl O fun h5 R5 g=>?_
  simp only [if_true]
  have hR:R5=z3w l (clo (y0h a b) l):=by
   refine v5b g.len (fun row o=>?_) fun p q c d k t=>?_
   ·obtain ⟨j,hj,he⟩:=eBs.1 o
    obtain ⟨_,_,_,h6,_⟩:=g.mat.cell j row (by rw [eAd hj,he])
    exact h6
   ·rw [g.cells p q c d k t,if_neg (by omega)]
  rw [hR] at g
  refine z1d (w9m g.mat g.len rfl (u3i rfl)) ((y1b u5l (u3f (.d (.list false 4 (z0a ff0 l))) (.list false 1 (z2y (z3w l (clo (y0h a b) l)))) [])).mono ?_)
  rintro e s1 ⟨rfl,rfl⟩
  exact ⟨.inr rfl,rfl,rfl⟩
structure t5t (l a b:List Cd):Prop where
 len:l.length≤1000
 nd:(l.map (·.n)).Nodup
 ina:∀ c∈a,c∈l
 inb:∀ c∈b,c∈l
 fa:Few a
 fb:Few b
 la:a.length≤100000
 lb:b.length≤100000
 na:a.Nodup
 nb:b.Nodup
noncomputable def w56:Ctr:=⟨95,[.list 4, .list 4, .list 4],[],[(.ret,⟨[(0, .list 1)],[],1⟩)]⟩
noncomputable def G95 (_:Prim) (x:List (List D)×(List (List D)×(List (List D)×Unit))):Option (List (List D)×Unit):=
 match z6f x.1,z6f x.2.1,z6f x.2.2.1 with
 |some l,some a,some b=>@ite _ (t5t l a b) (Classical.propDecidable _) (some (z2y (z3w l (clo (y0h a b) l)),())) none
 |_,_,_=>none
noncomputable def F95:Prim→Tup (w56).scs→Option (STup (scss (w56).outs)):=fun p x=>G95 p x
theorem y38 {es:List (List D)} {l:List Cd} (h:z6f es=some l) {O:Nat→Prop} {w:World} {v:Value} (a:z1m O w (.list false 4 es) v):z1m O w (.list false 4 (z0a ff0 l)) v:=by
 obtain ⟨c,b⟩:=y27 h
 exact y60 a (by rw [c]; simp [z0a]) b
theorem t5c:CtrOk PZ w56 (F95 std):=by
 refine ⟨v0p,fun (x:List (List D)×(List (List D)×(List (List D)×Unit))) y c=>?_⟩
 obtain ⟨n,p,o,u⟩:=x
 change G95 std (n,p,o,u)=_ at c
 unfold G95 at c
 cases h:z6f n with
 |none=>simp only [h] at c; cases c
 |some l=>
  cases k:z6f p with
  |none=>simp only [h,k] at c; cases c
  |some a=>
   cases m:z6f o with
   |none=>simp only [h,k,m] at c; cases c
   |some b=>
    simp only [h,k,m] at c
    split at c
    ·rename_i e
     cases c
     refine ⟨eBb _,?_⟩
     show z3s _ 95 [.d (.list false 4 n), .d (.list false 4 p), .d (.list false 4 o)] [] (.d (.list false 1 (z2y (z3w l (clo (y0h a b) l))))) []
     refine w7f (u5u e.len e.nd e.ina e.inb e.fa e.fb e.la e.lb e.na e.nb) fun ρ O w q g=>⟨g.1,fun i x f=>?_⟩
     match i,f with
     |0,f=>
      cases f
      cases g.2 0 _ rfl with|d j=>exact .d (y38 h j)
     |1,f=>
      cases f
      cases g.2 1 _ rfl with|d j=>exact .d (y38 k j)
     |2,f=>
      cases f
      cases g.2 2 _ rfl with|d j=>exact .d (y38 m j)
     |i+3,f=>simp at f
    ·cases c
end Go.Am
end
noncomputable section
namespace Go.Am
def u4m:Ctr:=
 ⟨47,[.list 4, .list 4],[],[(.ret,⟨[(0, .tuple [.vec 0 4, .int .i64])],[o9m],1⟩)]⟩
def la47:List LA:=
 [⟨47,[fU,tU,fU,tU,tU,tU,tU,tU,tU],0,⟨⟨[(6, .list 4),(7, .list 1),(8, .int .i64)],[],72⟩,[(AX.ret,⟨[(4, .nils),(5, .int .i64)],[],72⟩),((AX.exit 0),⟨[(6, .list 4),(7, .list 1)],[],72⟩)]⟩⟩,
 ⟨47,[fU,tU,fU,fU,tU,fU,fU,tU,fU,tU,tU,tU,tU,tU,tU],0,⟨⟨[(6, .list 4),(7, .list 1),(8, .int .i64),(9, .int .i64)],[],72⟩,[(AX.ret,⟨[(4, .nils),(5, .int .i64)],[],72⟩),((AX.exit 2),⟨[(6, .list 4),(7, .list 1),(8, .int .i64)],[],72⟩)]⟩⟩]
def ja47:List JA:=
 [⟨47,[fU,tU,fU,fU,tU,fU,fU,tU,fU,fU,tU,fU,tU,tU,tU,tU,tU,tU],0,[(AX.ret,⟨[(4, .nils),(5, .int .i64)],[],72⟩),(AX.normal,⟨[(6, .list 4),(7, .list 1),(8, .int .i64),(9, .int .i64)],[],72⟩)]⟩]
def t2i:List CF:=
 [⟨u4b,G69⟩,⟨v8a,G44⟩,⟨v73,G96⟩,⟨w56,F95⟩,⟨y7n,t4v⟩,⟨v02,G93⟩]
def an47:Anns:=
 ⟨t2i,ja47,[]⟩
def x2h (p:Prim):V52v→Option (V52v⊕(V1v⊕V45v)):=
 fun a=>let A:=p.nat a.2.2.2.1;let B:=p.nat a.2.2.1;let C:=p.cmp .geq a.2.2.2.1 0;let E:=p.cmp .geq a.2.2.1 0;let F:=CK.list 1; opt.run _ (
 aK (p.cmp .lss a.2.2.2.1 a.2.2.1) (
 opt.alt (V1v) (V52v) _ (
 opt.run ((V1v⊕V52v)) (
 nD (p.rowOk a.1 B [ci,ci,F,ci])<|
 nD E<|
 nD (p.rowOk a.1 A [ci,ci,F,ci])<|
 nD C<|
 opt.bnd (V2v) _ (G44 p ((p.rdI a.1 B 0),((p.rdI a.1 B 1),((p.rdL a.1 B 2),((p.rdI a.1 B 3),((p.rdI a.1 A 0),((p.rdI a.1 A 1),((p.rdL a.1 A 2),((p.rdI a.1 A 3),()))))))))) fun b=>
 aK b.1 (
 nD (p.rowOk a.2.1 B [F])<|
 nD E<|
 nD (p.rowOk (p.rdL a.2.1 B 0) A [CK.bool])<|
 nD C<|
 aK (bif (p.rdB (p.rdL a.2.1 B 0) A 0) then false else true) (
 nD (p.rowOk a.2.1 A [F])<|
 nD C<|
 nD (p.rowOk (p.rdL a.2.1 A 0) B [CK.bool])<|
 nD E<|
 aK (bif (p.rdB (p.rdL a.2.1 A 0) B 0) then false else true) (
 rT (eAs ((16:Int),()))) (
 rT (eAm a))) (
 rT (eAm a))) (
 rT (eAm a)))) (fun c=>
 rT (eAm (eAs c))) (fun d=>
 opt.bnd (V52v) _ (some d) fun e=>
 rT (eAs (e.1,(e.2.1,(e.2.2.1,((p.ar .add .i64 e.2.2.2.1 1),()))))))) (
 rT (eAm (eAm (a.1,(a.2.1,(a.2.2.1,())))))))
def w2i (p:Prim):V45v→Option (V45v⊕(V1v⊕V32v)):=
 fun a=>opt.run _ (
 aK (p.cmp .lss a.2.2.1 (p.ofNat (p.len a.1))) (
 opt.alt (V1v) (V45v) _ (
 z1a (x2h p) (a.1,(a.2.1,(a.2.2.1,((0:Int),()))))) (fun b=>
 rT (eAm (eAs b))) (fun c=>
 opt.bnd (V45v) _ (some c) fun d=>
 rT (eAs (d.1,(d.2.1,((p.ar .add .i64 d.2.2.1 1),())))))) (
 rT (eAm (eAm (a.1,(a.2.1,()))))))
def G47:(p:Prim)→V32v→Option (V25v):=
 fun p x=>
 opt.bnd (V1v) _ (G93 p x) fun a=>
 aK (p.cmp .neq a.1 0) (
 opt.bnd (V1v) _ (G93 p x) fun b=>
 rT ([],b)) (
 opt.bnd (V10v) _ (v9l p x) fun c=>
 aK (p.cmp .gtr (p.ofNat (p.len c.1)) (60:Int)) (
 rT ([],((6:Int),()))) (
 opt.bnd (V10v) _ (G95 p (c.1,x)) fun d=>
 opt.bnd (V2v) _ (G96 p d) fun e=>
 aK e.1 (
 rT ([],((24:Int),()))) (
 opt.alt (V1v) (V32v) _ (
 z1a (w2i p) (c.1,(d.1,((0:Int),())))) (fun f=>
 rT ([],f)) (fun g=>
 opt.bnd (V32v) _ (some g) fun h=>
 opt.bnd (V10v) _ (G69 p h) fun i=>
 nD (p.eqN 0 0)<|
 nD (p.eqN (p.len i.1) (p.len i.1))<|
 rT (i.1,((0:Int),()))))))
theorem ok47:CtrOk PG u4m (G47 std):=okF vE (a:=an47) (l:=la47) (gC ok69 (gC u9k (gC t5b (gC t5c (gC u0m (gC u9f (gN)))))))
def u4k:Ctr:=
 ⟨49,[.list 4, .list 4],[],[(.ret,⟨[(0, .int .i64)],[],1⟩)]⟩
def la49:List LA:=
 []
def ja49:List JA:=
 []
def t2g:List CF:=
 [⟨v73,G96⟩,⟨w56,F95⟩,⟨y7n,t4v⟩,⟨v02,G93⟩]
def an49:Anns:=
 ⟨t2g,ja49,[]⟩
def G49:(p:Prim)→V32v→Option (V1v):=
 fun p x=>
 opt.bnd (V1v) _ (G93 p x) fun a=>
 aK (p.cmp .neq a.1 0) (
 opt.bnd (V1v) _ (G93 p x) fun b=>
 rT b) (
 opt.bnd (V10v) _ (v9l p x) fun c=>
 opt.bnd (V10v) _ (G95 p (c.1,x)) fun d=>
 opt.bnd (V2v) _ (G96 p d) fun e=>
 aK (bif e.1 then false else true) (
 rT ((5:Int),())) (
 rT ((0:Int),())))
theorem ok49:CtrOk PG u4k (G49 std):=okF vE (a:=an49) (l:=la49) (gC t5b (gC t5c (gC u0m (gC u9f (gN)))))
def u3v:Ctr:=
 ⟨79,[.list 4],[],[(.ret,⟨[(0, .map 0)],[.map],1⟩)]⟩
def la79:List LA:=
 [⟨79,[fU,tU,fU,tU,tU],0,⟨⟨[(3, .map 0),(7, .list 4),(8, .int .i64),(9, .int .i64)],[.map],19⟩,[((AX.exit 0),⟨[(3, .map 0)],[.map],19⟩)]⟩⟩]
def ja79:List JA:=
 [⟨79,[fU,tU,tU,fU,fU,tU,fU,tU,tU],0,[(AX.normal,⟨[(3, .map 0),(7, .list 4),(8, .int .i64),(9, .int .i64)],[.map],19⟩)]⟩]
def t1w:List CF:=
 []
def an79:Anns:=
 ⟨t1w,ja79,[]⟩
def w6s (p:Prim):V41v→Option (V41v⊕V63v):=
 fun a=>let C:=p.nat a.2.2.2.1;let A:=D.int .i64 (p.rdI a.2.1 C 0);let B:=D.agg [A,(D.int .i64 (p.rdI a.2.1 C 1)),(D.list (p.rdF a.2.1 C 2 1) 1 (p.rdL a.2.1 C 2)),(D.int .i64 (p.rdI a.2.1 C 3))];let E:=[ci,ci,(CK.list 1),ci]; opt.run _ (
 aK (p.cmp .lss a.2.2.2.1 a.2.2.1) (
 opt.bnd (V41v) _ (
 opt.run (V41v) (
 nD (p.rowOk a.2.1 C E)<|
 nD (p.cmp .geq a.2.2.2.1 0)<|
 nD (p.mOk a.1 [SK.i] false A true E)<|
 aK (p.mhas a.1 [SK.i] false A) (
 rT ((p.mset a.1 (p.nat (p.ofNat (p.mpos a.1 [SK.i] false A))) A B),a.2)) (
 rT ((p.madd a.1 A B),a.2)))) fun b=>
 rT (eAs (b.1,(b.2.1,(b.2.2.1,((p.ar .add .i64 b.2.2.2.1 1),())))))) (
 rT (eAm (a.1,()))))
def G79:(p:Prim)→V10v→Option (V63v):=
 fun p x=>
 opt.bnd (V63v) _ (
 z1a (w6s p) ([],(x.1,((p.ofNat (p.len x.1)),((0:Int),()))))) fun a=>
 rT a
theorem ok79:CtrOk PG u3v (G79 std):=okF vE (a:=an79) (l:=la79) (gN)
def v3s:Ctr:=
 ⟨118,[.list 1, .list 1],[],[(.ret,⟨[(0, .bool)],[],1⟩)]⟩
def t0h:List LA:=
 [⟨118,[fU,tU,fU,tU,tU],0,⟨⟨[(0, .list 1),(1, .list 1),(12, .int .i64),(13, .int .i64)],[],26⟩,[(AX.ret,⟨[(4, .bool)],[],26⟩),((AX.exit 0),⟨[],[],26⟩)]⟩⟩]
def t0y:List JA:=
 []
def u1v:List CF:=
 []
def t34:Anns:=
 ⟨u1v,t0y,[]⟩
def x0e (p:Prim):V52v→Option (V52v⊕(V2v⊕Unit)):=
 fun a=>let A:=a.2.2.2.1;let B:=p.cmp .geq A 0;let C:=p.nat A; opt.run _ (
 aK (p.cmp .lss A a.2.2.1) (
 nD (p.rowOk a.1 C [ci])<|
 nD B<|
 nD (p.rowOk a.2.1 C [ci])<|
 nD B<|
 aK (p.cmp .neq (p.rdI a.1 C 0) (p.rdI a.2.1 C 0)) (
 rT (eAm (eAs (false,())))) (
 rT (eAs (a.1,(a.2.1,(a.2.2.1,((p.ar .add .i64 A 1),()))))))) (
 rT (eAm (eAm ()))))
def v9m:(p:Prim)→V32v→Option (V2v):=
 fun p x=>
 aK (p.cmp .neq (p.ofNat (p.len x.1)) (p.ofNat (p.len x.2.1))) (
 rT (false,())) (
 opt.alt (V2v) (Unit) _ (
 z1a (x0e p) (x.1,(x.2.1,((p.ofNat (p.len x.1)),((0:Int),()))))) (fun a=>
 rT a) (fun b=>
 opt.bnd (Unit) _ (some b) fun c=>
 rT (true,())))
theorem u9q:CtrOk PG v3s (v9m std):=okF vE (a:=t34) (l:=t0h) (gN)
def u3u:Ctr:=
 ⟨80,[.agg [.int .i64, .int .i64, .list 1, .int .i64], .agg [.int .i64, .int .i64, .list 1, .int .i64]],[],[(.ret,⟨[(0, .bool)],[],1⟩)]⟩
def la80:List LA:=
 []
def ja80:List JA:=
 [⟨80,[fU,tU],0,[(AX.normal,⟨[(4, .bool)],[],31⟩)]⟩]
def t1v:List CF:=
 [⟨v3s,v9m⟩]
def an80:Anns:=
 ⟨t1v,ja80,[]⟩
def G80:(p:Prim)→V51v→Option (V2v):=
 fun p x=>
 opt.bnd (V2v) _ (
 opt.run (V2v) (
 aK (p.cmp .eql x.1 x.2.2.2.2.1) (
 aK (p.cmp .eql x.2.1 x.2.2.2.2.2.1) (
 aK (p.cmp .eql x.2.2.2.1 x.2.2.2.2.2.2.2.1) (
 opt.bnd (V2v) _ (v9m p (x.2.2.1,(x.2.2.2.2.2.2.1,()))) fun a=>
 rT a) (
 rT (false,()))) (
 rT (false,()))) (
 rT (false,())))) fun b=>
 rT b
theorem ok80:CtrOk PG u3u (G80 std):=okF vE (a:=an80) (l:=la80) (gC u9q (gN))
def v03:Ctr:=
 ⟨90,[.list 4, .list 4],[],[(.ret,⟨[(0, .int .i64)],[],1⟩)]⟩
def la90:List LA:=
 [⟨90,[fU,tU,fU,tU,tU,tU],0,⟨⟨[(6, .map 0),(19, .list 4),(20, .int .i64),(21, .int .i64)],[.map],40⟩,[(AX.ret,⟨[(4, .int .i64)],[],40⟩),((AX.exit 0),⟨[],[],40⟩)]⟩⟩]
def ja90:List JA:=
 [⟨90,[fU,tU,tU,fU,fU,tU,fU,tU,tU,tU],0,[(AX.ret,⟨[(4, .int .i64)],[],40⟩),(AX.normal,⟨[(6, .map 0),(19, .list 4),(20, .int .i64),(21, .int .i64)],[.map],40⟩)]⟩]
def t1s:List CF:=
 [⟨u3v,G79⟩,⟨u3u,G80⟩,⟨u3w,G78⟩]
def an90:Anns:=
 ⟨t1s,ja90,[]⟩
def x7p (p:Prim):V41v→Option (V41v⊕(V1v⊕Unit)):=
 fun a=>let B:=p.nat a.2.2.2.1;let A:=D.int .i64 (p.rdI a.2.1 B 0);let C:=[ci,ci,(CK.list 1),ci];let E:=[SK.i]; opt.run _ (
 aK (p.cmp .lss a.2.2.2.1 a.2.2.1) (
 opt.alt (V1v) (V41v) _ (
 opt.run ((V1v⊕V41v)) (
 nD (p.rowOk a.2.1 B C)<|
 nD (p.cmp .geq a.2.2.2.1 0)<|
 nD (p.mOk a.1 E false A true C)<|
 aK (p.mhas a.1 E false A) (
 opt.bnd (V2v) _ (G80 p ((p.mI a.1 E false A 0),((p.mI a.1 E false A 1),((p.mL a.1 E false A 2),((p.mI a.1 E false A 3),((p.rdI a.2.1 B 0),((p.rdI a.2.1 B 1),((p.rdL a.2.1 B 2),((p.rdI a.2.1 B 3),()))))))))) fun b=>
 aK (bif b.1 then false else true) (
 rT (eAs ((15:Int),()))) (
 rT (eAm a))) (
 rT (eAm a)))) (fun c=>
 rT (eAm (eAs c))) (fun d=>
 opt.bnd (V41v) _ (some d) fun e=>
 rT (eAs (e.1,(e.2.1,(e.2.2.1,((p.ar .add .i64 e.2.2.2.1 1),()))))))) (
 rT (eAm (eAm ()))))
def G90:(p:Prim)→V32v→Option (V1v):=
 fun p x=>
 opt.bnd (V1v) _ (G78 p x) fun a=>
 aK (p.cmp .neq a.1 0) (
 rT a) (
 opt.bnd (V63v) _ (G79 p (x.1,())) fun b=>
 opt.alt (V1v) (Unit) _ (
 z1a (x7p p) (b.1,(x.2.1,((p.ofNat (p.len x.2.1)),((0:Int),()))))) (fun c=>
 rT c) (fun d=>
 opt.bnd (Unit) _ (some d) fun e=>
 rT ((0:Int),())))
theorem u9g:CtrOk PG v03 (G90 std):=okF vE (a:=an90) (l:=la90) (gC ok79 (gC ok80 (gC ok78 (gN))))
def u4n:Ctr:=
 ⟨46,[.list 4, .list 4],[],[(.ret,⟨[(0, .tuple [.vec 0 4, .int .i64])],[o9m],1⟩)]⟩
def la46:List LA:=
 [⟨46,[fU,tU,fU,tU,tU,tU,tU,tU,tU],0,⟨⟨[(7, .bptr 0 0),(35, .sl 1 4),(36, .int .i64),(37, .int .i64)],o25m,86⟩,[(AX.ret,⟨[(4, .nils),(5, .int .i64)],[],86⟩),((AX.exit 0),⟨[(7, .bptr 0 0)],o25m,86⟩)]⟩⟩,
 ⟨46,[fU,tU,tU,fU,fU,tU,tU,fU,fU,tU,fU,tU,tU,tU,tU,tU,tU],0,⟨⟨[(7, .bptr 0 0),(8, .int .i64),(9, .bptr 1 0),(35, .sl 2 4),(36, .int .i64),(37, .int .i64),(48, .slc 2 4),(49, .int .i64),(50, .int .i64)],[o4m,o0m,o9m, .map,o2m],86⟩,[(AX.ret,⟨[(4, .nils),(5, .int .i64)],[],86⟩),((AX.exit 2),⟨[(7, .bptr 0 0),(35, .sl 1 4),(36, .int .i64),(37, .int .i64)],o25m,86⟩)]⟩⟩]
def ja46:List JA:=
 [⟨46,[fU,tU,fU,fU,tU,tU,fU,fU,tU,tU,fU,fU,tU,tU,fU,fU,tU,fU,tU,tU,tU,tU,tU,tU],0,[(AX.normal,⟨[(7, .bptr 0 0),(8, .int .i64),(9, .bptr 1 0),(35, .sl 2 4),(36, .int .i64),(37, .int .i64),(48, .slc 2 4),(49, .int .i64),(50, .int .i64),(81, .bool)],[o4m,o0m,o9m, .map,o2m],86⟩)]⟩]
def t2j:List CF:=
 [⟨u4c,G67⟩,⟨u3s,G91⟩,⟨u4a,G70⟩,⟨v78,G66⟩,⟨x7h,G74⟩,⟨v74,G92⟩,⟨v03,G90⟩]
def an46:Anns:=
 ⟨t2j,ja46,[]⟩
def x2i (p:Prim):V40v→Option (V40v⊕(V1v⊕V21v)):=
 fun a=>let A:=a.2.2.2.2.2.2.2.2.2.2.2.2.2.2.2.2.2.2.1;let I:=a.2.2.1;let Y:=a.2.2.2.2.2.1;let X:=a.2.2.2.2.2.2.1;let V:=a.2.2.2.2.2.2.2.1;let Q:=a.2.2.2.2.2.2.2.2.1;let F:=a.2.2.2.2.2.2.2.2.2.1;let N:=a.2.2.2.2.2.2.2.2.2.2.1;let M:=a.2.2.2.2.2.2.2.2.2.2.2.1;let L:=a.2.2.2.2.2.2.2.2.2.2.2.2.1;let K:=a.2.2.2.2.2.2.2.2.2.2.2.2.2.1;let J:=a.2.2.2.2.2.2.2.2.2.2.2.2.2.2.1;let H:=a.2.2.2.2.2.2.2.2.2.2.2.2.2.2.2.1;let T:=a.2.2.2.2.2.2.2.2.2.2.2.2.2.2.2.2.1;let G:=a.2.2.2.2.2.2.2.2.2.2.2.2.2.2.2.2.2.1;let B:=(a.1,(a.2.1,(I,(a.2.2.2.1,(a.2.2.2.2.1,(Y,(X,(V,(Q,(F,(N,(M,(L,(K,(J,(H,(T,(G,(A,(false,()))))))))))))))))))));let A1:=p.len I;let C:=p.eqN A1 A1;let E:=p.add J (p.nat A);let P:=p.eqN 0 0;let R:=p.add 0 (p.nat F);let S:=p.add 0 (p.nat A);let U:=CK.int .u64;let Z:=p.cmp .geq A 0; opt.run _ (
 aK (p.cmp .lss A G) (
 nD (bif Z then (p.cmp .lss A (p.ofNat H)) else false)<|
 nD (p.rowOk a.1 E [ci,ci,(CK.list 1),ci])<|
 opt.bnd (V36v) _ (
 opt.run (V36v) (
 opt.bnd (V2v) _ (G92 p (Y,(X,(V,(Q,((p.rdI a.1 E 0),((p.rdI a.1 E 1),((p.rdL a.1 E 2),((p.rdI a.1 E 3),()))))))))) fun b=>
 aK b.1 (
 nD (bif (p.cmp .geq F 0) then (p.cmp .lss F (p.ofNat A1)) else false)<|
 nD (p.rowOk I R [U,U])<|
 opt.bnd (V2v) _ (G74 p ((p.rdI I R 0),((p.rdI I R 1),a.2.2.2.2.2.2.2.2.2.2.2.2.2.2.2.2.2.2))) fun c=>
 aK (bif c.1 then false else true) (
 nD (bif Z then (p.cmp .lss A (p.ofNat A1)) else false)<|
 nD (p.rowOk I S [U,U])<|
 opt.bnd (V2v) _ (G74 p ((p.rdI I S 0),((p.rdI I S 1),(F,())))) fun d=>
 nD P<|
 nD C<|
 nD C<|
 rT (a.1,(a.2.1,(I,(a.2.2.2.1,(a.2.2.2.2.1,(Y,(X,(V,(Q,(F,(N,(M,(L,(K,(J,(H,(T,(G,(A,((bif d.1 then false else true),()))))))))))))))))))))) (
 nD P<|
 nD C<|
 nD C<|
 rT B)) (
 nD P<|
 nD C<|
 nD C<|
 rT B))) fun e=>let O:=p.len e.2.2.1;
 aK e.2.2.2.2.2.2.2.2.2.2.2.2.2.2.2.2.2.2.2.1 (
 rT (eAm (eAs ((16:Int),())))) (
 nD P<|
 nD (p.eqN O O)<|
 nD (p.eqN O O)<|
 rT (eAs (e.1,(e.2.1,(e.2.2.1,(e.2.2.2.1,(e.2.2.2.2.1,(e.2.2.2.2.2.1,(e.2.2.2.2.2.2.1,(e.2.2.2.2.2.2.2.1,(e.2.2.2.2.2.2.2.2.1,(e.2.2.2.2.2.2.2.2.2.1,(e.2.2.2.2.2.2.2.2.2.2.1,(e.2.2.2.2.2.2.2.2.2.2.2.1,(e.2.2.2.2.2.2.2.2.2.2.2.2.1,(e.2.2.2.2.2.2.2.2.2.2.2.2.2.1,(e.2.2.2.2.2.2.2.2.2.2.2.2.2.2.1,(e.2.2.2.2.2.2.2.2.2.2.2.2.2.2.2.1,(e.2.2.2.2.2.2.2.2.2.2.2.2.2.2.2.2.1,(e.2.2.2.2.2.2.2.2.2.2.2.2.2.2.2.2.2.1,((p.ar .add .i64 e.2.2.2.2.2.2.2.2.2.2.2.2.2.2.2.2.2.2.1 1),())))))))))))))))))))))) (
 nD P<|
 nD C<|
 nD C<|
 rT (eAm (eAm (a.1,(a.2.1,(I,(a.2.2.2.1,(a.2.2.2.2.1,(N,(M,(L,(K,())))))))))))))
def w2j (p:Prim):V21v→Option (V21v⊕(V1v⊕V5v)):=
 fun a=>let A:=a.2.2.2.2.2.2.2.2.1;let B:=p.add a.2.2.2.2.2.1 (p.nat A);let C:=p.eqN (p.len a.2.2.1) (p.len a.2.2.1);let F:=(0:Int);let E:=p.sub (p.nat A) (p.nat F); opt.run _ (
 aK (p.cmp .lss A a.2.2.2.2.2.2.2.1) (
 nD (bif (p.cmp .geq A F) then (p.cmp .lss A (p.ofNat a.2.2.2.2.2.2.1)) else false)<|
 nD (p.rowOk a.1 B [ci,ci,(CK.list 1),ci])<|
 nD (p.and (p.cmp .geq F F) (p.and (p.cmp .leq F A) (p.and (p.cmp .leq A A) (p.cmp .leq A (p.ofNat a.2.2.2.2.1)))))<|
 nD (p.eqN 0 0)<|
 nD C<|
 nD C<|
 opt.alt (V1v) (V21v) _ (
 z1a (x2i p) (a.1,(a.2.1,(a.2.2.1,(a.2.2.2.1,(a.2.2.2.2.1,((p.rdI a.1 B 0),((p.rdI a.1 B 1),((p.rdL a.1 B 2),((p.rdI a.1 B 3),(A,(a.2.2.2.2.2.1,(a.2.2.2.2.2.2.1,(a.2.2.2.2.2.2.2.1,(A,((p.add a.2.2.2.1 (p.nat F)),(E,(E,((p.ofNat E),(F,())))))))))))))))))))) (fun b=>
 rT (eAm (eAs b))) (fun c=>
 opt.bnd (V21v) _ (some c) fun d=>let G:=p.len d.2.2.1;
 nD (p.eqN 0 0)<|
 nD (p.eqN G G)<|
 nD (p.eqN G G)<|
 rT (eAs (d.1,(d.2.1,(d.2.2.1,(d.2.2.2.1,(d.2.2.2.2.1,(d.2.2.2.2.2.1,(d.2.2.2.2.2.2.1,(d.2.2.2.2.2.2.2.1,((p.ar .add .i64 d.2.2.2.2.2.2.2.2.1 1),())))))))))))) (
 nD (p.eqN 0 0)<|
 nD C<|
 nD C<|
 rT (eAm (eAm (a.1,(a.2.1,(a.2.2.1,(a.2.2.2.1,(a.2.2.2.2.1,())))))))))
def G46:(p:Prim)→V32v→Option (V25v):=
 fun p x=>let F:=p.eqN 0 0;
 opt.bnd (V1v) _ (G90 p x) fun a=>
 aK (p.cmp .neq a.1 0) (
 rT ([],a)) (
 opt.bnd (V5v) _ (G66 p ([[(D.list false 4 x.1)],[(D.list false 4 x.2.1)]],())) fun b=>let E:=p.len b.2.2.1;
 aK (p.cmp .gtr (p.ofNat b.2.2.2.2.1) (60:Int)) (
 rT ([],((6:Int),()))) (
 nD F<|
 nD (p.eqN E E)<|
 nD (p.eqN E E)<|
 opt.bnd (V5v) _ (G70 p b) fun c=>let C:=p.len c.2.2.1;
 nD F<|
 nD (p.eqN C C)<|
 nD (p.eqN C C)<|
 opt.bnd (V43v) _ (G91 p c) fun d=>let B:=p.len d.2.2.1;
 aK d.2.2.2.2.2.1 (
 rT ([],((24:Int),()))) (
 nD F<|
 nD (p.eqN B B)<|
 nD (p.eqN B B)<|
 opt.alt (V1v) (V5v) _ (
 z1a (w2j p) (d.1,(d.2.1,(d.2.2.1,(d.2.2.2.1,(d.2.2.2.2.1,(d.2.2.2.1,(d.2.2.2.2.1,((p.ofNat d.2.2.2.2.1),((0:Int),())))))))))) (fun e=>
 rT ([],e)) (fun f=>
 opt.bnd (V5v) _ (some f) fun g=>let A:=p.len g.2.2.1;
 nD F<|
 nD (p.eqN A A)<|
 nD (p.eqN A A)<|
 opt.bnd (V47v) _ (G67 p g) fun h=>
 nD F<|
 nD (p.eqN (p.len h.2.2.2.1) (p.len h.2.2.2.1))<|
 rT (h.2.2.2.1,((0:Int),()))))))
theorem ok46:CtrOk PG u4n (G46 std):=okF vD (a:=an46) (l:=la46) (gC ok67 (gC ok91 (gC ok70 (gC t5f (gC v9d (gC t5d (gC u9g (gN))))))))
def u3q:Ctr:=
 ⟨99,[.agg [.int .i64, .int .i64, .list 1, .int .i64], .bptr 0 0, .bptr 1 0],o19m,[(.ret,⟨[(0, .bool)],o19m,1⟩)]⟩
def la99:List LA:=
 []
def ja99:List JA:=
 []
def t1m:List CF:=
 [⟨x7h,G74⟩]
def an99:Anns:=
 ⟨t1m,ja99,[]⟩
def G99:(p:Prim)→(LD×(List (V26v)×(LD×(Int×(Int×(Nat×(Nat×V12v)))))))→Option (V56v):=
 fun p x=>let A:=p.eqN (p.len x.2.2.1) (p.len x.2.2.1);let B:=D.int .i64 x.2.2.2.2.2.2.2.1;let C:=x.2.2.2.2.1;let E:=x.2.2.2.1;
 nD (p.mOk x.2.1 [SK.i] false B false [ci])<|
 aK (p.mhas x.2.1 [SK.i] false B) (
 opt.bnd (V2v) _ (G74 p (E,(C,((p.mI x.2.1 [SK.i] false B 0),())))) fun a=>
 nD (p.eqN 0 0)<|
 nD A<|
 nD A<|
 rT (x.1,(x.2.1,(x.2.2.1,(E,(C,(x.2.2.2.2.2.1,(x.2.2.2.2.2.2.1,((bif a.1 then false else true),()))))))))) (
 opt.bnd (V2v) _ (G74 p (E,(C,((0:Int),())))) fun b=>
 nD (p.eqN 0 0)<|
 nD A<|
 nD A<|
 rT (x.1,(x.2.1,(x.2.2.1,(E,(C,(x.2.2.2.2.2.1,(x.2.2.2.2.2.2.1,((bif b.1 then false else true),())))))))))
theorem ok99:CtrOk PG u3q (G99 std):=okF vD (a:=an99) (l:=la99) (gC v9d (gN))
def u3r:Ctr:=
 ⟨98,[.sl 0 4, .clo 99 [] [.bptr 1 0, .bptr 2 0]],o23m,[(.ret,⟨[(0, .int .i64)],o23m,1⟩)]⟩
def la98:List LA:=
 [⟨98,[fU,tU,fU,tU],6,⟨⟨[(0, .sl 0 4),(1, .clo 99 [] [.bptr 1 0, .bptr 2 0]),(7, .int .i64),(8, .int .i64)],o23m,19⟩,[(AX.ret,⟨[(4, .int .i64)],o23m,19⟩),((AX.exit 0),⟨[],o23m,19⟩)]⟩⟩]
def ja98:List JA:=
 []
def t1n:List CF:=
 [⟨u3q,G99⟩]
def an98:Anns:=
 ⟨t1n,ja98,[]⟩
def w19 (p:Prim):V58v→Option (V58v⊕(V7v⊕V27v)):=
 fun a=>let E:=a.2.2.2.2.2.2.2.2.2.2.1;let A:=p.add a.2.2.2.2.2.2.2.1 (p.nat E);let C:=p.eqN (p.len a.2.2.1) (p.len a.2.2.1);let F:=p.eqN 0 0; opt.run _ (
 aK (p.cmp .lss E a.2.2.2.2.2.2.2.2.2.1) (
 nD (bif (p.cmp .geq E 0) then (p.cmp .lss E (p.ofNat a.2.2.2.2.2.2.2.2.1)) else false)<|
 nD (p.rowOk a.1 A [ci,ci,(CK.list 1),ci])<|
 nD F<|
 nD C<|
 nD C<|
 opt.bnd (V56v) _ (G99 p (a.1,(a.2.1,(a.2.2.1,(a.2.2.2.1,(a.2.2.2.2.1,(a.2.2.2.2.2.1,(a.2.2.2.2.2.2.1,((p.rdI a.1 A 0),((p.rdI a.1 A 1),((p.rdL a.1 A 2),((p.rdI a.1 A 3),())))))))))))) fun b=>let B:=p.eqN (p.len b.2.2.1) (p.len b.2.2.1);
 aK b.2.2.2.2.2.2.2.1 (
 nD F<|
 nD B<|
 nD B<|
 rT (eAm (eAs (b.1,(b.2.1,(b.2.2.1,(b.2.2.2.1,(b.2.2.2.2.1,(b.2.2.2.2.2.1,(b.2.2.2.2.2.2.1,a.2.2.2.2.2.2.2.2.2.2)))))))))) (
 nD F<|
 nD B<|
 nD B<|
 rT (eAs (b.1,(b.2.1,(b.2.2.1,(b.2.2.2.1,(b.2.2.2.2.1,(b.2.2.2.2.2.1,(b.2.2.2.2.2.2.1,(a.2.2.2.2.2.2.2.1,(a.2.2.2.2.2.2.2.2.1,(a.2.2.2.2.2.2.2.2.2.1,((p.ar .add .i64 E 1),())))))))))))))) (
 nD F<|
 nD C<|
 nD C<|
 rT (eAm (eAm (a.1,(a.2.1,(a.2.2.1,(a.2.2.2.1,(a.2.2.2.2.1,(a.2.2.2.2.2.1,(a.2.2.2.2.2.2.1,())))))))))))
def G98:(p:Prim)→(LD×(List (V26v)×(LD×(Int×(Int×(Nat×(Nat×V11v)))))))→Option (V7v):=
 fun p x=>let A:=p.len x.2.2.1;
 nD (p.eqN 0 0)<|
 nD (p.eqN A A)<|
 nD (p.eqN A A)<|
 opt.alt (V7v) (V27v) _ (
 z1a (w19 p) (x.1,(x.2.1,(x.2.2.1,(x.2.2.2.1,(x.2.2.2.2.1,(x.2.2.2.2.2.1,(x.2.2.2.2.2.2.1,(x.2.2.2.2.2.2.2.1,(x.2.2.2.2.2.2.2.2.1,((p.ofNat x.2.2.2.2.2.2.2.2.1),((0:Int),())))))))))))) (fun a=>let C:=p.len a.2.2.1;
 nD (p.eqN 0 0)<|
 nD (p.eqN C C)<|
 nD (p.eqN C C)<|
 rT a) (fun b=>
 opt.bnd (V27v) _ (some b) fun c=>let B:=p.len c.2.2.1;
 nD (p.eqN 0 0)<|
 nD (p.eqN B B)<|
 nD (p.eqN B B)<|
 rT (c.1,(c.2.1,(c.2.2.1,(c.2.2.2.1,(c.2.2.2.2.1,(c.2.2.2.2.2.1,(c.2.2.2.2.2.2.1,((-1:Int),())))))))))
theorem ok98:CtrOk PG u3r (G98 std):=okF vD (a:=an98) (l:=la98) (gC ok99 (gN))
def v34:Ctr:=
 ⟨100,[.slc 0 1],[o18m],[(.ret,⟨[(0, .tuple [])],[o18m],1⟩)]⟩
def t0r:List LA:=
 [⟨100,[fU,tU],1,⟨⟨[(0, .slc 0 1),(2, .int .i64),(3, .int .i64)],[o18m],28⟩,[((AX.exit 0),⟨[],[o18m],28⟩)]⟩⟩]
def t08:List JA:=
 []
def u2f:List CF:=
 []
def t4h:Anns:=
 ⟨u2f,t08,[]⟩
def u5s (p:Prim):(LD×V46v)→Option ((LD×V46v)⊕V10v):=
 fun a=>let F:=a.2.2.2.2.2.1;let A:=p.add a.2.1 (p.nat F);let H:=a.2.2.2.2.1;let B:=p.add a.2.1 (p.nat H);let C:=bif (p.cmp .geq F 0) then (p.cmp .lss F (p.ofNat a.2.2.1)) else false;let E:=bif (p.cmp .geq H 0) then (p.cmp .lss H (p.ofNat a.2.2.1)) else false;let G:=p.set a.1 B [(D.int .i64 (p.rdI a.1 A 0))]; opt.run _ (
 aK (p.cmp .lss H F) (
 nD C<|
 nD (p.rowOk a.1 A [ci])<|
 nD E<|
 nD (p.rowOk a.1 B [ci])<|
 nD E<|
 nD (p.rowOk a.1 B [ci])<|
 nD C<|
 nD (p.rowOk G A [ci])<|
 rT (eAs ((p.set G A [(D.int .i64 (p.rdI a.1 B 0))]),(a.2.1,(a.2.2.1,(a.2.2.2.1,((p.ar .add .i64 H 1),((p.ar .sub .i64 F 1),())))))))) (
 rT (eAm (a.1,()))))
def t5w:(p:Prim)→V44v→Option (V10v):=
 fun p x=>
 opt.bnd (V10v) _ (
 z1a (u5s p) (x.1,(x.2.1,(x.2.2.1,(x.2.2.2.1,((0:Int),((p.ar .sub .i64 (p.ofNat x.2.2.1) (1:Int)),()))))))) fun a=>
 rT a
theorem u9x:CtrOk PG v34 (t5w std):=okF vD (a:=t4h) (l:=t0r) (gN)
def x95:Ctr:=
 ⟨100,[.vec 0 1],[o18m],[(.ret,⟨[(0, .tuple [])],[o18m],1⟩)]⟩
def v6v:List LA:=
 [⟨100,[fU,tU],1,⟨⟨[(0, .vec 0 1),(2, .int .i64),(3, .int .i64)],[o18m],28⟩,[((AX.exit 0),⟨[],[o18m],28⟩)]⟩⟩]
def v65:List JA:=
 []
def v0a:List CF:=
 []
def v8r:Anns:=
 ⟨v0a,v65,[]⟩
def y29 (p:Prim):V18v→Option (V18v⊕V10v):=
 fun a=>let F:=p.add 0 (p.nat a.2.1);let H:=a.2.2.1;let E:=p.add 0 (p.nat H);let A:=p.set a.1 F [(D.int .i64 (p.rdI a.1 E 0))];let B:=bif (p.cmp .geq H 0) then (p.cmp .lss H (p.ofNat (p.len a.1))) else false;let C:=bif (p.cmp .geq a.2.1 0) then (p.cmp .lss a.2.1 (p.ofNat (p.len a.1))) else false;let G:=p.set A E [(D.int .i64 (p.rdI a.1 F 0))]; opt.run _ (
 aK (p.cmp .lss a.2.1 H) (
 nD B<|
 nD (p.rowOk a.1 E [ci])<|
 nD C<|
 nD (p.rowOk a.1 F [ci])<|
 nD C<|
 nD (p.rowOk a.1 F [ci])<|
 nD B<|
 nD (p.rowOk A E [ci])<|
 nD (p.eqN 0 0)<|
 nD (p.eqN (p.len a.1) (p.len G))<|
 rT (eAs (G,((p.ar .add .i64 a.2.1 1),((p.ar .sub .i64 H 1),()))))) (
 rT (eAm (a.1,()))))
def y4s:(p:Prim)→V10v→Option (V10v):=
 fun p x=>
 nD (p.eqN 0 0)<|
 nD (p.eqN (p.len x.1) (p.len x.1))<|
 opt.bnd (V10v) _ (
 z1a (y29 p) (x.1,((0:Int),((p.ar .sub .i64 (p.ofNat (p.len x.1)) (1:Int)),())))) fun a=>
 rT a
theorem v5w:CtrOk PG x95 (y4s std):=okF vD (a:=v8r) (l:=v6v) (gN)
def u4l:Ctr:=
 ⟨48,[.list 4, .list 4],[],[(.ret,⟨[(0, .tuple [.sl 0 1, .int .i64])],[o18m],1⟩)]⟩
def la48:List LA:=
 [⟨48,[fU,tU,fU,tU,tU,tU,fU,tU],0,⟨⟨[(7, .bptr 0 0),(8, .bptr 1 0),(9, .bptr 2 0)],o21m,115⟩,[((AX.exit 0),⟨[(7, .bptr 0 0),(8, .bptr 1 0)],[.box [.bptr 2 0],o11m,o5m,o9m, .map,o2m],115⟩)]⟩⟩,
 ⟨131,[fU,tU],10,⟨⟨[(0, .yld 9),(2, .bptr 8 0),(9, .full 6 2),(10, .int .i64),(11, .int .i64)],[o14m,o11m,o17m,o7m,o9m, .map,o2m,o14m,o11m, .loop Go.LoopState.ready Option.none 48 [false,true,true,false,false,true,false,false,true,false,true,true,true,false,true] 115 [(31, .clo 131 [] [.bptr 7 0, .bptr 8 0]),(7, .bptr 0 0),(8, .bptr 1 0),(9, .bptr 2 0)]],34⟩,[(AX.ret,⟨[],[o14m,o11m,o17m,o7m,o9m, .map,o2m,o14m,o11m, .loop Go.LoopState.done (Option.some (Go.Code.exit 2)) 48 [false,true,true,false,false,true,false,false,true,false,true,true,true,false,true] 115 [(31, .clo 131 [] [.bptr 7 0, .bptr 8 0]),(7, .bptr 0 0),(8, .bptr 1 0),(9, .bptr 2 0)]],34⟩),((AX.exit 0),⟨[],[o14m,o11m,o17m,o7m,o9m, .map,o2m,o14m,o11m, .loop Go.LoopState.ready Option.none 48 [false,true,true,false,false,true,false,false,true,false,true,true,true,false,true] 115 [(31, .clo 131 [] [.bptr 7 0, .bptr 8 0]),(7, .bptr 0 0),(8, .bptr 1 0),(9, .bptr 2 0)]],34⟩)]⟩⟩,
 ⟨48,[fU,fU,tU,tU,tU,tU,tU,tU,tU,tU,tU,fU,tU],0,⟨⟨[(7, .bptr 0 0),(8, .bptr 1 0),(11, .int .i64),(12, .map 2),(13, .vec 7 1)],[o14m,o11m, .map,o7m,o9m, .map,o2m,o18m],115⟩,[((AX.exit 4),⟨[(7, .bptr 0 0),(11, .int .i64),(12, .map 1),(13, .vec 2 1)],o22m,115⟩)]⟩⟩,
 ⟨48,[fU,tU,tU,tU,tU,fU,fU,fU,fU,tU,tU,tU,tU,tU,tU,tU,tU,tU,fU,tU],0,⟨⟨[(7, .bptr 0 0),(8, .bptr 1 0),(11, .int .i64),(12, .map 2),(13, .vec 3 1),(72, .int .i64),(73, .int .i64)],o20m,115⟩,[((AX.exit 6),⟨[(7, .bptr 0 0),(8, .bptr 1 0),(11, .int .i64),(12, .map 2),(13, .vec 3 1)],o20m,115⟩)]⟩⟩]
def ja48:List JA:=
 [⟨48,[tU,tU,fU,fU,tU,fU,fU,tU,fU,tU,tU,tU,fU,tU],0,[(AX.normal,⟨[(7, .bptr 0 0),(8, .bptr 1 0),(9, .bptr 2 0)],o21m,115⟩)]⟩,
 ⟨48,[fU,fU,fU,tU,tU,tU,tU,tU,tU,tU,tU,tU,fU,tU],0,[((AX.exit 4),⟨[(7, .bptr 0 0),(11, .int .i64),(12, .map 1),(13, .vec 2 1)],o22m,115⟩),(AX.normal,⟨[(7, .bptr 0 0),(8, .bptr 1 0),(11, .int .i64),(12, .map 2),(13, .vec 3 1)],o20m,115⟩)]⟩,
 ⟨48,[fU,tU,fU,fU,tU,tU,fU,fU,tU,tU,tU,tU,fU,fU,fU,fU,tU,tU,tU,tU,tU,tU,tU,tU,tU,fU,tU],0,[(AX.normal,⟨[(7, .bptr 0 0),(8, .bptr 1 0),(11, .int .i64),(12, .map 2),(13, .vec 3 1),(16, .int .i64),(72, .int .i64),(73, .int .i64),(90, .bool)],o20m,115⟩)]⟩,
 ⟨131,[fU,tU,tU,fU,fU,tU],10,[(AX.ret,⟨[],[o14m,o11m,o17m,o7m,o9m, .map,o2m,o14m,o11m, .loop Go.LoopState.done (Option.some (Go.Code.exit 2)) 48 [false,true,true,false,false,true,false,false,true,false,true,true,true,false,true] 115 [(31, .clo 131 [] [.bptr 7 0, .bptr 8 0]),(7, .bptr 0 0),(8, .bptr 1 0),(9, .bptr 2 0)]],34⟩),(AX.normal,⟨[(0, .yld 9),(2, .bptr 8 0),(9, .full 6 2),(10, .int .i64),(11, .int .i64)],[o14m,o11m,o17m,o7m,o9m, .map,o2m,o14m,o11m, .loop Go.LoopState.ready Option.none 48 [false,true,true,false,false,true,false,false,true,false,true,true,true,false,true] 115 [(31, .clo 131 [] [.bptr 7 0, .bptr 8 0]),(7, .bptr 0 0),(8, .bptr 1 0),(9, .bptr 2 0)]],34⟩)]⟩]
def t2h:List CF:=
 [⟨x95,y4s⟩,⟨v34,t5w⟩,⟨u3r,G98⟩,⟨v78,G66⟩,⟨v05,G72⟩,⟨w58,v8y⟩,⟨x7h,G74⟩,⟨v03,G90⟩]
def an48:Anns:=
 ⟨t2h,ja48,[]⟩
def x5g (p:Prim):V20v→Option (V20v⊕V42v):=
 fun a=>let G:=a.2.2.2.2.1;let A:=p.eqN (p.len G) (p.len G);let C:=a.2.2.2.2.2.2.2.2.2.1;let E:=a.2.2.2.2.2.2.2.2.2.2.2.1;let F:=p.eqN 0 0;let H:=p.eqN (p.len a.2.1) (p.len a.2.1);let I:=a.2.2.2.2.2.2.2.2.2.2.1;let J:=a.2.2.2.2.2.2.1;let K:=a.2.2.2.2.2.2.2.2.1;let L:=p.add 0 (p.nat C);let M:=a.2.2.2.2.2.1;let O:=a.2.2.2.2.2.2.2.1;let Q:=a.2.2.2.2.2.2.2.2.2.2.2; opt.run _ (
 aK (p.cmp .lss E I) (
 opt.bnd (V16v) _ (
 opt.run (V16v) (
 nD (bif (p.cmp .geq C 0) then (p.cmp .lss C (p.ofNat (p.len G))) else false)<|
 nD (p.rowOk G L [(CK.int .u64),(CK.int .u64)])<|
 opt.bnd (V2v) _ (G74 p ((p.rdI G L 0),((p.rdI G L 1),Q))) fun b=>
 aK b.1 (
 opt.bnd (V2v) _ (G74 p (M,(J,Q))) fun c=>
 nD F<|
 nD A<|
 nD A<|
 nD F<|
 nD H<|
 rT (a.1,(a.2.1,(a.2.2.1,(a.2.2.2.1,(G,(M,(J,(O,(K,(C,(E,(I,(E,((bif c.1 then false else true),()))))))))))))))) (
 nD F<|
 nD A<|
 nD A<|
 nD F<|
 nD H<|
 rT (a.1,(a.2.1,(a.2.2.1,(a.2.2.2.1,(G,(M,(J,(O,(K,(C,(E,(I,(E,(false,()))))))))))))))))) fun d=>let P:=d.2.2.2.2.1;let B:=p.eqN (p.len P) (p.len P);let N:=p.len d.2.1;
 aK d.2.2.2.2.2.2.2.2.2.2.2.2.2.1 (
 nD F<|
 nD B<|
 nD B<|
 nD F<|
 nD (p.eqN N N)<|
 rT (eAm (d.1,(d.2.1,(d.2.2.1,(d.2.2.2.1,(P,(d.2.2.2.2.2.1,(d.2.2.2.2.2.2.1,(d.2.2.2.2.2.2.2.1,(d.2.2.2.2.2.2.2.2.1,(d.2.2.2.2.2.2.2.2.2.2.1,())))))))))))) (
 nD F<|
 nD B<|
 nD B<|
 nD F<|
 nD (p.eqN N N)<|
 rT (eAs (d.1,(d.2.1,(d.2.2.1,(d.2.2.2.1,(P,(d.2.2.2.2.2.1,(d.2.2.2.2.2.2.1,(d.2.2.2.2.2.2.2.1,(d.2.2.2.2.2.2.2.2.1,(d.2.2.2.2.2.2.2.2.2.1,(d.2.2.2.2.2.2.2.2.2.2.2.1,((p.ar .add .i64 d.2.2.2.2.2.2.2.2.2.2.2.2.1 1),()))))))))))))))) (
 nD F<|
 nD A<|
 nD A<|
 nD F<|
 nD H<|
 rT (eAm (a.1,(a.2.1,(a.2.2.1,(a.2.2.2.1,(G,(M,(J,(O,(K,(C,())))))))))))))
def t3w (p:Prim):V20v→Option (V20v⊕V42v):=
 fun a=>let G:=a.2.2.2.2.1;let A:=p.eqN (p.len G) (p.len G);let C:=a.2.2.2.2.2.2.2.2.2.1;let E:=a.2.2.2.2.2.2.2.2.2.2.2.1;let F:=p.eqN 0 0;let H:=p.eqN (p.len a.2.1) (p.len a.2.1);let I:=a.2.2.2.2.2.2.2.2.2.2.1;let J:=a.2.2.2.2.2.2.1;let K:=a.2.2.2.2.2.2.2.2.1;let L:=p.add 0 (p.nat C);let M:=a.2.2.2.2.2.1;let O:=a.2.2.2.2.2.2.2.1;let Q:=a.2.2.2.2.2.2.2.2.2.2.2; opt.run _ (
 aK (p.cmp .lss E I) (
 opt.bnd (V16v) _ (
 opt.run (V16v) (
 nD (bif (p.cmp .geq C 0) then (p.cmp .lss C (p.ofNat (p.len G))) else false)<|
 nD (p.rowOk G L [(CK.int .u64),(CK.int .u64)])<|
 opt.bnd (V2v) _ (G74 p ((p.rdI G L 0),((p.rdI G L 1),Q))) fun b=>
 aK b.1 (
 opt.bnd (V2v) _ (G74 p (M,(J,Q))) fun c=>
 nD F<|
 nD A<|
 nD A<|
 nD F<|
 nD H<|
 rT (a.1,(a.2.1,(a.2.2.1,(a.2.2.2.1,(G,(M,(J,(O,(K,(C,(E,(I,(E,((bif c.1 then false else true),()))))))))))))))) (
 nD F<|
 nD A<|
 nD A<|
 nD F<|
 nD H<|
 rT (a.1,(a.2.1,(a.2.2.1,(a.2.2.2.1,(G,(M,(J,(O,(K,(C,(E,(I,(E,(false,()))))))))))))))))) fun d=>let P:=d.2.2.2.2.1;let B:=p.eqN (p.len P) (p.len P);let N:=p.len d.2.1;
 aK d.2.2.2.2.2.2.2.2.2.2.2.2.2.1 (
 nD F<|
 nD B<|
 nD B<|
 nD F<|
 nD (p.eqN N N)<|
 rT (eAm (d.1,(d.2.1,(d.2.2.1,(d.2.2.2.1,(P,(d.2.2.2.2.2.1,(d.2.2.2.2.2.2.1,(d.2.2.2.2.2.2.2.1,(d.2.2.2.2.2.2.2.2.1,(d.2.2.2.2.2.2.2.2.2.2.1,())))))))))))) (
 nD F<|
 nD B<|
 nD B<|
 nD F<|
 nD (p.eqN N N)<|
 rT (eAs (d.1,(d.2.1,(d.2.2.1,(d.2.2.2.1,(P,(d.2.2.2.2.2.1,(d.2.2.2.2.2.2.1,(d.2.2.2.2.2.2.2.1,(d.2.2.2.2.2.2.2.2.1,(d.2.2.2.2.2.2.2.2.2.1,(d.2.2.2.2.2.2.2.2.2.2.2.1,((p.ar .add .i64 d.2.2.2.2.2.2.2.2.2.2.2.2.1 1),()))))))))))))))) (
 nD F<|
 nD A<|
 nD A<|
 nD F<|
 nD H<|
 rT (eAm (a.1,(a.2.1,(a.2.2.1,(a.2.2.2.1,(G,(M,(J,(O,(K,(C,())))))))))))))
def w60 (p:Prim):V53v→Option (V53v⊕V31v):=
 fun a=>let G:=p.len a.2.2.2.2.1;let B:=a.2.2.2.2.2.2.2.2.2.1;let I:=p.add a.2.2.2.2.2.2.2.1 (p.nat B);let S:=[[(D.int .i64 (p.rdI a.2.1 I 0))]];let A:=p.app (p.cut a.2.2.2.2.1 0 G) (p.cut S 0 1);let C:=p.and (p.leN (p.add 0 1) (p.len S)) (p.and (p.leN (p.add 0 G) G) (p.and (p.leN 1 1) (p.leN (p.add G 1) 1000000)));let X:=a.2.2.2.1;let E:=p.eqN (p.len X) (p.len X);let R:=a.2.2.2.2.2.2.2.2.1;let F:=(A,(a.2.1,(a.2.2.1,(X,(a.2.2.2.2.2.1,(a.2.2.2.2.2.2.1,(a.2.2.2.2.2.2.2.1,(R,(B,((p.ofNat R),((0:Int),())))))))))));let H:=p.eqN 0 0;let J:=bif (p.cmp .geq B 0) then (p.cmp .lss B (p.ofNat R)) else false;let K:=D.int .i64 B;let P:=p.mOk a.1 [SK.i] false K false [ci];let Q:=p.rowOk a.2.1 I [ci,ci,(CK.list 1),ci];let T:=p.mhas a.1 [SK.i] false K;let U:=p.eqN (p.add G 1) (p.len A);let V:=D.int .i64 (p.ofNat G); opt.run _ (
 opt.alt (V31v) (V42v) _ (
 opt.run ((V31v⊕V42v)) (
 nD P<|
 aK T (
 nD H<|
 nD E<|
 nD E<|
 nD H<|
 nD (p.eqN G G)<|
 rT (eAs (a.1,(a.2.2.2.2.1,(a.2.1,(a.2.2.1,(X,a.2.2.2.2.2.2.2))))))) (
 nD P<|
 aK T (
 nD J<|
 nD Q<|
 nD C<|
 nD H<|
 nD E<|
 nD E<|
 nD H<|
 nD U<|
 opt.bnd (V42v) _ (
 z1a (t3w p) ((p.mset a.1 (p.nat (p.ofNat (p.mpos a.1 [SK.i] false K))) K V),F)) fun b=>let O:=p.len b.2.2.2.2.1;
 nD H<|
 nD (p.eqN O O)<|
 nD (p.eqN O O)<|
 nD H<|
 nD (p.eqN (p.len b.2.1) (p.len b.2.1))<|
 rT (eAm b)) (
 nD J<|
 nD Q<|
 nD C<|
 nD H<|
 nD E<|
 nD E<|
 nD H<|
 nD U<|
 opt.bnd (V42v) _ (
 z1a (x5g p) ((p.madd a.1 K V),F)) fun c=>let N:=p.len c.2.2.2.2.1;
 nD H<|
 nD (p.eqN N N)<|
 nD (p.eqN N N)<|
 nD H<|
 nD (p.eqN (p.len c.2.1) (p.len c.2.1))<|
 rT (eAm c))))) (fun d=>let M:=p.len d.2.2.2.2.1;
 nD H<|
 nD (p.eqN M M)<|
 nD (p.eqN M M)<|
 nD H<|
 nD (p.eqN (p.len d.2.1) (p.len d.2.1))<|
 rT (eAm d)) (fun e=>
 opt.bnd (V42v) _ (some e) fun f=>let L:=p.len f.2.2.2.2.1;
 nD H<|
 nD (p.eqN L L)<|
 nD (p.eqN L L)<|
 nD H<|
 nD (p.eqN (p.len f.2.1) (p.len f.2.1))<|
 rT (eAs (f.1,(f.2.2.1,(f.2.2.2.1,(f.2.2.2.2.1,(f.2.1,f.2.2.2.2.2))))))))
def x5h (p:Prim):V19v→Option (V19v⊕(V13v⊕V13v)):=
 fun a=>let H:=a.2.2.1;let A:=p.eqN (p.len H) (p.len H);let G:=a.2.2.2.2.2.2.2.2.2.2.2.1;let B:=p.add 0 (p.nat G);let E:=(a.2.2.2.2.2.2.2.2.1,(a.2.2.2.2.2.2.2.2.2.1,()));let F:=p.eqN 0 0;let J:=(a.2.2.2.2.2.2.1,(a.2.2.2.2.2.2.2.1,E));let K:=a.2.2.2.2.2.2.2.2.2.2.2; opt.run _ (
 aK (p.cmp .lss G a.2.2.2.2.2.2.2.2.2.2.1) (
 opt.alt (V13v) (V19v) _ (
 opt.run ((V13v⊕V19v)) (
 nD (bif (p.cmp .geq G 0) then (p.cmp .lss G (p.ofNat (p.len H))) else false)<|
 nD (p.rowOk H B [(CK.int .u64),(CK.int .u64)])<|
 opt.bnd (V2v) _ (G74 p (a.2.2.2.2.2.2.2.2.1,(a.2.2.2.2.2.2.2.2.2.1,K))) fun b=>
 aK (bif b.1 then false else true) (
 opt.bnd (V0v) _ (v8y p ((p.rdI H B 0),((p.rdI H B 1),E))) fun c=>
 aK (bif (p.cmp .eql c.1 (p.rdI H B 0)) then (bif (p.cmp .eql c.2.1 (p.rdI H B 1)) then true else false) else false) (
 opt.bnd (V0v) _ (G72 p (a.2.2.2.1,(a.2.2.2.2.1,K))) fun d=>
 nD F<|
 nD A<|
 nD A<|
 rT (eAs (a.1,(a.2.1,(H,(d.1,(d.2.1,(true,J)))))))) (
 nD F<|
 nD A<|
 nD A<|
 nD F<|
 nD A<|
 nD A<|
 rT (eAm a))) (
 nD F<|
 nD A<|
 nD A<|
 nD F<|
 nD A<|
 nD A<|
 rT (eAm a)))) (fun e=>let I:=p.len e.2.2.1;
 nD F<|
 nD (p.eqN I I)<|
 nD (p.eqN I I)<|
 rT (eAm (eAs e))) (fun f=>
 opt.bnd (V19v) _ (some f) fun g=>let C:=p.eqN (p.len g.2.2.1) (p.len g.2.2.1);
 nD F<|
 nD C<|
 nD C<|
 nD F<|
 nD C<|
 nD C<|
 rT (eAs (g.1,(g.2.1,(g.2.2.1,(g.2.2.2.1,(g.2.2.2.2.1,(g.2.2.2.2.2.1,(g.2.2.2.2.2.2.1,(g.2.2.2.2.2.2.2.1,(g.2.2.2.2.2.2.2.2.1,(g.2.2.2.2.2.2.2.2.2.1,(g.2.2.2.2.2.2.2.2.2.2.1,((p.ar .add .i64 g.2.2.2.2.2.2.2.2.2.2.2.1 1),()))))))))))))))) (
 nD F<|
 nD A<|
 nD A<|
 rT (eAm (eAm (a.1,(a.2.1,(H,(a.2.2.2.1,(a.2.2.2.2.1,(a.2.2.2.2.2.1,J))))))))))
def w2h (p:Prim):V30v→Option (V30v⊕V27v):=
 fun a=>let G:=p.len a.2.2.1;let A:=p.eqN G G;let B:=p.eqN 0 0; opt.run _ (
 aK a.2.2.2.2.2.1 (
 opt.bnd (V30v) _ (
 opt.run (V30v) (
 nD B<|
 nD A<|
 nD A<|
 nD B<|
 nD A<|
 nD A<|
 opt.alt (V13v) (V13v) _ (
 z1a (x5h p) (a.1,(a.2.1,(a.2.2.1,(a.2.2.2.1,(a.2.2.2.2.1,(false,(a.2.2.2.2.2.2.1,(a.2.2.2.2.2.2.2.1,(a.2.2.2.1,(a.2.2.2.2.1,((p.ofNat G),((0:Int),()))))))))))))) (fun b=>let F:=p.len b.2.2.1;
 nD B<|
 nD (p.eqN F F)<|
 nD (p.eqN F F)<|
 rT (b.1,(b.2.1,(b.2.2.1,(b.2.2.2.1,(b.2.2.2.2.1,(b.2.2.2.2.2.1,(b.2.2.2.2.2.2.1,(b.2.2.2.2.2.2.2.1,()))))))))) (fun c=>
 opt.bnd (V13v) _ (some c) fun d=>let E:=p.len d.2.2.1;
 nD B<|
 nD (p.eqN E E)<|
 nD (p.eqN E E)<|
 rT (d.1,(d.2.1,(d.2.2.1,(d.2.2.2.1,(d.2.2.2.2.1,(d.2.2.2.2.2.1,(d.2.2.2.2.2.2.1,(d.2.2.2.2.2.2.2.1,()))))))))))) fun e=>let C:=p.len e.2.2.1;
 nD B<|
 nD (p.eqN C C)<|
 nD (p.eqN C C)<|
 rT (eAs e)) (
 nD B<|
 nD A<|
 nD A<|
 rT (eAm (a.1,(a.2.1,(a.2.2.1,(a.2.2.2.1,(a.2.2.2.2.1,a.2.2.2.2.2.2))))))))
def G48:(p:Prim)→V32v→Option ((LD×V17v)):=
 fun p x=>let J:=(0:Int);let Q:=p.add 0 (p.nat J);let A2:=p.eqN 0 0;let A5:=p.leN 1 1;
 opt.bnd (V1v) _ (G90 p x) fun a=>
 aK (p.cmp .neq a.1 J) (
 rT ([],(0,(0,a)))) (
 opt.bnd (V5v) _ (G66 p ([[(D.list false 4 x.1)],[(D.list false 4 x.2.1)]],())) fun b=>let Y:=p.len b.2.2.1;
 nD A2<|
 nD (p.eqN Y Y)<|
 nD (p.eqN Y Y)<|
 opt.bnd (V27v) _ (
 z1a (w2h p) (b.1,(b.2.1,(b.2.2.1,(J,(J,(true,b.2.2.2))))))) fun c=>let X:=p.len c.2.2.1;
 nD A2<|
 nD (p.eqN X X)<|
 nD (p.eqN X X)<|
 opt.bnd (V7v) _ (G98 p (c.1,(c.2.1,(c.2.2.1,(c.2.2.2.1,(c.2.2.2.2.1,(c.2.2.2.2.2.1,(c.2.2.2.2.2.2.1,c.2.2.2.2.2)))))))) fun d=>let V:=p.len d.2.2.1;
 aK (p.cmp .lss d.2.2.2.2.2.2.2.1 J) (
 rT ([],(0,(0,((5:Int),()))))) (
 nD A2<|
 nD (p.eqN V V)<|
 nD (p.eqN V V)<|
 opt.bnd (V31v) _ (
 z1a (w60 p) ([],(d.1,(d.2.1,(d.2.2.1,([],d.2.2.2)))))) fun e=>let I:=e.2.2.2.2.2.2.2.1;let A8:=D.int .i64 I;let M:=p.mI e.1 [SK.i] false A8 0;let A:=p.nat M;let A3:=p.add e.2.2.2.2.2.1 (p.nat I);let B:=[[(D.int .i64 (p.rdI e.2.2.1 A3 0))]];let R:=p.len e.2.1;let G:=p.ofNat R;let C:=p.nat G;let F:=p.sub C (p.nat J);let E:=p.add Q F;let A6:=p.add 0 A;let A4:=p.sub C A;let H:=p.add A6 A4;let K:=p.cut B 0 1;let L:=p.add A4 1;let N:=bif (p.cmp .geq I J) then (p.cmp .lss I (p.ofNat e.2.2.2.2.2.2.1)) else false;let O:=p.leN (p.add 0 1) (p.len B);let P:=p.rowOk e.2.2.1 A3 [ci,ci,(CK.list 1),ci];let S:=p.app (p.cut e.2.1 A6 A4) K;let T:=p.add F 1;let U:=p.cmp .leq G G;let Z:=p.splice e.2.1 H K;let A1:=p.splice e.2.1 E K;let A7:=p.app (p.cut e.2.1 Q F) K;
 nD (p.mOk e.1 [SK.i] false A8 false [ci])<|
 aK (p.mhas e.1 [SK.i] false A8) (
 nD (p.and (p.cmp .geq M J) (p.and (p.cmp .leq M G) (p.and U U)))<|
 nD N<|
 nD P<|
 aK (p.leN L A4) (
 nD (p.and O (p.and (p.leN H R) (p.and A5 (p.leN H R))))<|
 nD (p.eqN A6 0)<|
 nD (p.eqN L (p.len Z))<|
 nD (p.leN H (p.len Z))<|
 opt.bnd (V10v) _ (y4s p (Z,())) fun f=>
 nD (p.leN H (p.len f.1))<|
 rT (f.1,(A6,(L,(J,()))))) (
 nD (p.and O (p.and (p.leN H R) (p.and A5 (p.leN L 1000000))))<|
 nD A2<|
 nD (p.eqN L (p.len S))<|
 opt.bnd (V10v) _ (y4s p (S,())) fun g=>
 rT (g.1,(0,(L,(J,())))))) (
 nD (p.and (p.cmp .geq J J) (p.and (p.cmp .leq J G) (p.and U U)))<|
 nD N<|
 nD P<|
 aK (p.leN T F) (
 nD (p.and O (p.and (p.leN E R) (p.and A5 (p.leN E R))))<|
 nD (p.eqN Q 0)<|
 nD (p.eqN T (p.len A1))<|
 nD (p.leN E (p.len A1))<|
 opt.bnd (V10v) _ (y4s p (A1,())) fun h=>
 nD (p.leN E (p.len h.1))<|
 rT (h.1,(Q,(T,(J,()))))) (
 nD (p.and O (p.and (p.leN E R) (p.and A5 (p.leN T 1000000))))<|
 nD A2<|
 nD (p.eqN T (p.len A7))<|
 opt.bnd (V10v) _ (y4s p (A7,())) fun i=>
 rT (i.1,(0,(T,(J,()))))))))
theorem ok48:CtrOk PG u4l (G48 std):=okF vD (a:=an48) (l:=la48) (gC v5w (gC u9x (gC ok98 (gC t5f (gC u9h (gC u0o (gC v9d (gC u9g (gN)))))))))
def v3z:Ctr:=
 ⟨102,[.agg [.int .i64, .int .i64, .list 1, .int .i64], .bptr 0 0],[o12m],[(.ret,⟨[(0, .bool)],[o12m],1⟩)]⟩
def t0p:List LA:=
 []
def t06:List JA:=
 []
def u2d:List CF:=
 []
def t4f:Anns:=
 ⟨u2d,t06,[]⟩
def u7d:(p:Prim)→(Int×V12v)→Option (V24v):=
 fun p x=>
 rT (x.1,((p.cmp .eql x.2.1 x.1),()))
theorem u0t:CtrOk PG v3z (u7d std):=okF vE (a:=t4f) (l:=t0p) (gN)
def x9y:Ctr:=
 ⟨98,[.list 4, .clo 102 [] [.bptr 0 0]],[o12m],[(.ret,⟨[(0, .int .i64)],[o12m],1⟩)]⟩
def u1f:List LA:=
 [⟨98,[fU,tU,fU,tU],1,⟨⟨[(0, .list 4),(1, .clo 102 [] [.bptr 0 0]),(7, .int .i64),(8, .int .i64)],[o12m],19⟩,[(AX.ret,⟨[(4, .int .i64)],[o12m],19⟩),((AX.exit 0),⟨[],[o12m],19⟩)]⟩⟩]
def t0u:List JA:=
 []
def w5j:List CF:=
 [⟨v3z,u7d⟩]
def u5w:Anns:=
 ⟨w5j,t0u,[]⟩
def x0d (p:Prim):V55v→Option (V55v⊕(V0v⊕V1v)):=
 fun a=>let B:=a.2.2.2.1;let A:=p.nat B; opt.run _ (
 aK (p.cmp .lss B a.2.2.1) (
 nD (p.rowOk a.2.1 A [ci,ci,(CK.list 1),ci])<|
 nD (p.cmp .geq B 0)<|
 opt.bnd (V24v) _ (u7d p (a.1,((p.rdI a.2.1 A 0),((p.rdI a.2.1 A 1),((p.rdL a.2.1 A 2),((p.rdI a.2.1 A 3),())))))) fun b=>
 aK b.2.1 (
 rT (eAm (eAs (b.1,a.2.2.2)))) (
 rT (eAs (b.1,(a.2.1,(a.2.2.1,((p.ar .add .i64 B 1),()))))))) (
 rT (eAm (eAm (a.1,())))))
def v9k:(p:Prim)→V65v→Option (V0v):=
 fun p x=>
 opt.alt (V0v) (V1v) _ (
 z1a (x0d p) (x.1,(x.2.1,((p.ofNat (p.len x.2.1)),((0:Int),()))))) (fun a=>
 rT a) (fun b=>
 opt.bnd (V1v) _ (some b) fun c=>
 rT (c.1,((-1:Int),())))
theorem eq98w (p:Prim) (x:Tup (x9y).scs):bodyRun opt p (autoEnvE [] PG) (mkOrc opt p (autoEnvE [] PG) 400 (u5w) u1f) 400 x9y x=v9k p x:=by kernel_rfl
theorem t5n:GamOk PG (w5j):=by
 intro cf h
 simp only [w5j,eBa,eCl,or_false] at h
 rcases h with rfl
 ·exact u0t
theorem u2s:z3g PG 98:=enters_auto (b:=_) rfl (by kernel_rfl)
theorem u9e:CtrOk PG x9y (v9k std):=okF vE (a:=u5w) (l:=u1f) (gC u0t (gN))
def v3y:Ctr:=
 ⟨103,[.agg [.int .i64, .int .i64, .list 1, .int .i64], .bptr 0 0],[o12m],[(.ret,⟨[(0, .bool)],[o12m],1⟩)]⟩
def t0o:List LA:=
 []
def t05:List JA:=
 []
def u2c:List CF:=
 []
def t4e:Anns:=
 ⟨u2c,t05,[]⟩
def u7c:(p:Prim)→(Int×V12v)→Option (V24v):=
 fun p x=>
 rT (x.1,((p.cmp .eql x.2.1 x.1),()))
theorem u0s:CtrOk PG v3y (u7c std):=okF vE (a:=t4e) (l:=t0o) (gN)
def y5j:Ctr:=
 ⟨98,[.list 4, .clo 103 [] [.bptr 0 0]],[o12m],[(.ret,⟨[(0, .int .i64)],[o12m],1⟩)]⟩
def w4y:List LA:=
 [⟨98,[fU,tU,fU,tU],1,⟨⟨[(0, .list 4),(1, .clo 103 [] [.bptr 0 0]),(7, .int .i64),(8, .int .i64)],[o12m],19⟩,[(AX.ret,⟨[(4, .int .i64)],[o12m],19⟩),((AX.exit 0),⟨[],[o12m],19⟩)]⟩⟩]
def v60:List JA:=
 []
def x1z:List CF:=
 [⟨v3y,u7c⟩]
def w7i:Anns:=
 ⟨x1z,v60,[]⟩
def y08 (p:Prim):V55v→Option (V55v⊕(V0v⊕V1v)):=
 fun a=>let B:=a.2.2.2.1;let A:=p.nat B; opt.run _ (
 aK (p.cmp .lss B a.2.2.1) (
 nD (p.rowOk a.2.1 A [ci,ci,(CK.list 1),ci])<|
 nD (p.cmp .geq B 0)<|
 opt.bnd (V24v) _ (u7c p (a.1,((p.rdI a.2.1 A 0),((p.rdI a.2.1 A 1),((p.rdL a.2.1 A 2),((p.rdI a.2.1 A 3),())))))) fun b=>
 aK b.2.1 (
 rT (eAm (eAs (b.1,a.2.2.2)))) (
 rT (eAs (b.1,(a.2.1,(a.2.2.1,((p.ar .add .i64 B 1),()))))))) (
 rT (eAm (eAm (a.1,())))))
def x0n:(p:Prim)→V65v→Option (V0v):=
 fun p x=>
 opt.alt (V0v) (V1v) _ (
 z1a (y08 p) (x.1,(x.2.1,((p.ofNat (p.len x.2.1)),((0:Int),()))))) (fun a=>
 rT a) (fun b=>
 opt.bnd (V1v) _ (some b) fun c=>
 rT (c.1,((-1:Int),())))
theorem t2x (p:Prim) (x:Tup (y5j).scs):bodyRun opt p (autoEnvE [] PG) (mkOrc opt p (autoEnvE [] PG) 400 (w7i) w4y) 400 y5j x=x0n p x:=by kernel_rfl
theorem u7v:GamOk PG (x1z):=by
 intro cf h
 simp only [x1z,eBa,eCl,or_false] at h
 rcases h with rfl
 ·exact u0s
theorem v7t:z3g PG 98:=enters_auto (b:=_) rfl (by kernel_rfl)
theorem v5s:CtrOk PG y5j (x0n std):=okF vE (a:=w7i) (l:=w4y) (gC u0s (gN))
def v30:Ctr:=
 ⟨101,[.list 4, .int .i64, .int .i64],[],[(.ret,⟨[(0, .bool)],[],1⟩)]⟩
def t0q:List LA:=
 []
def t07:List JA:=
 []
def u2e:List CF:=
 [⟨y5j,x0n⟩,⟨x9y,v9k⟩,⟨v74,G92⟩]
def t4g:Anns:=
 ⟨u2e,t07,[]⟩
def v9o:(p:Prim)→V18v→Option (V2v):=
 fun p x=>let E:=[ci,ci,(CK.list 1),ci];
 opt.bnd (V0v) _ (v9k p (x.2.1,(x.1,()))) fun a=>let B:=p.nat a.2.1;let C:=p.cmp .geq a.2.1 0;
 opt.bnd (V0v) _ (x0n p (x.2.2.1,(x.1,()))) fun b=>let A:=p.nat b.2.1;
 aK C (
 aK (p.cmp .gtr b.2.1 a.2.1) (
 nD (p.rowOk x.1 B E)<|
 nD C<|
 nD (p.rowOk x.1 A E)<|
 nD (p.cmp .geq b.2.1 0)<|
 opt.bnd (V2v) _ (G92 p ((p.rdI x.1 B 0),((p.rdI x.1 B 1),((p.rdL x.1 B 2),((p.rdI x.1 B 3),((p.rdI x.1 A 0),((p.rdI x.1 A 1),((p.rdL x.1 A 2),((p.rdI x.1 A 3),()))))))))) fun c=>
 rT c) (
 rT (false,()))) (
 rT (false,()))
theorem u9w:CtrOk PG v30 (v9o std):=okF vE (a:=t4g) (l:=t0q) (gC v5s (gC u9e (gC t5d (gN))))
def u4j:Ctr:=
 ⟨50,[.list 4, .list 4, .list 1],[],[(.ret,⟨[(0, .int .i64)],[],1⟩)]⟩
def la50:List LA:=
 [⟨50,[fU,tU,fU,tU,tU,tU,tU,tU],0,⟨⟨[(0, .list 4),(1, .list 4),(2, .list 1),(8, .clo 101 [] []),(9, .int .i64),(30, .list 1),(31, .int .i64),(32, .int .i64)],[],57⟩,[(AX.ret,⟨[(6, .int .i64)],[],57⟩),((AX.exit 0),⟨[(2, .list 1),(9, .int .i64)],[],57⟩)]⟩⟩]
def ja50:List JA:=
 [⟨50,[fU,fU,tU,tU],0,[(AX.normal,⟨[(0, .list 4),(1, .list 4),(2, .list 1),(25, .bool)],[],57⟩)]⟩,
 ⟨50,[fU,fU,tU,fU,fU,tU,tU,fU,fU,tU,fU,tU,tU,tU,tU,tU],0,[(AX.normal,⟨[(0, .list 4),(1, .list 4),(2, .list 1),(8, .clo 101 [] []),(11, .int .i64),(30, .list 1),(31, .int .i64),(32, .int .i64),(49, .bool)],[],57⟩)]⟩]
def t2f:List CF:=
 [⟨v30,v9o⟩,⟨v03,G90⟩]
def an50:Anns:=
 ⟨t2f,ja50,[]⟩
def x7s (p:Prim):(LD×(LD×(LD×V55v)))→Option ((LD×(LD×(LD×V55v)))⊕(V1v⊕V25v)):=
 fun a=>let C:=a.2.2.2.2.1;let B:=a.2.2.2.2.2.2.1;let A:=p.rdI C (p.nat B) 0;let E:=a.2.2.2.2.2.1; opt.run _ (
 aK (p.cmp .lss B E) (
 nD (p.rowOk C (p.nat B) [ci])<|
 nD (p.cmp .geq B 0)<|
 opt.bnd ((LD×(LD×(LD×(Int×(LD×V48v)))))) _ (
 opt.run ((LD×(LD×(LD×(Int×(LD×V48v)))))) (
 opt.bnd (V2v) _ (v9o p (a.1,(a.2.2.2.1,(A,())))) fun b=>
 aK (bif b.1 then false else true) (
 opt.bnd (V2v) _ (v9o p (a.2.1,(a.2.2.2.1,(A,())))) fun c=>
 rT (a.1,(a.2.1,(a.2.2.1,(A,(C,(E,(B,((bif c.1 then false else true),()))))))))) (
 rT (a.1,(a.2.1,(a.2.2.1,(A,(C,(E,(B,(false,()))))))))))) fun d=>
 aK d.2.2.2.2.2.2.2.1 (
 rT (eAm (eAs ((14:Int),())))) (
 rT (eAs (d.1,(d.2.1,(d.2.2.1,(d.2.2.2.1,(d.2.2.2.2.1,(d.2.2.2.2.2.1,((p.ar .add .i64 d.2.2.2.2.2.2.1 1),())))))))))) (
 rT (eAm (eAm (a.2.2.1,(a.2.2.2.1,()))))))
def G50:(p:Prim)→(LD×V32v)→Option (V1v):=
 fun p x=>let G:=(1:Int);let C:=(0:Int);let E:=p.ofNat (p.len x.2.2.1);let F:=p.nat C;
 opt.bnd (V1v) _ (G90 p (x.1,(x.2.1,()))) fun a=>
 aK (p.cmp .neq a.1 C) (
 rT a) (
 opt.bnd (V50v) _ (
 opt.run (V50v) (
 aK (p.cmp .lss E 3) (
 rT (x.1,(x.2.1,(x.2.2.1,(true,()))))) (
 rT (x.1,(x.2.1,(x.2.2.1,((p.cmp .gtr E 4096),()))))))) fun b=>let H:=b.2.2.1;let A:=p.ofNat (p.len H);let B:=p.cut H (p.nat G) (p.sub (p.nat A) (p.nat G));
 aK b.2.2.2.1 (
 rT ((6:Int),())) (
 nD (p.rowOk H F [ci])<|
 nD (p.and (p.cmp .geq G C) (p.and (p.cmp .leq G A) (p.cmp .leq A A)))<|
 opt.alt (V1v) (V25v) _ (
 z1a (x7s p) (b.1,(b.2.1,(H,((p.rdI H F 0),(B,((p.ofNat (p.len B)),(C,())))))))) (fun c=>
 rT c) (fun d=>
 opt.bnd (V25v) _ (some d) fun e=>
 nD (p.rowOk e.1 F [ci])<|
 aK (p.cmp .neq e.2.1 (p.rdI e.1 F 0)) (
 rT ((14:Int),())) (
 rT (C,())))))
theorem ok50:CtrOk PG u4j (G50 std):=okF vE (a:=an50) (l:=la50) (gC u9w (gC u9g (gN)))
def t3i:Ctr:=
 ⟨12,[.list 4, .list 4, .list 1],[],[(.ret,⟨[(0, .bool)],[],1⟩)]⟩
def la12:List LA:=
 []
def ja12:List JA:=
 [⟨12,[fU,fU,tU,tU,tU,tU,tU],0,[(AX.normal,⟨[(0, .list 4),(1, .list 4),(11, .sl 0 1),(12, .int .i64),(79, .bool)],[o18m],96⟩)]⟩,
 ⟨12,[fU,tU,tU,tU,tU,tU,tU,tU],0,[(AX.normal,⟨[(6, .bool)],[],96⟩)]⟩,
 ⟨12,[fU,fU,tU,fU,tU,tU,tU,tU,tU,tU],0,[(AX.normal,⟨[(6, .bool)],[],96⟩)]⟩,
 ⟨12,[fU,fU,tU],0,[(AX.normal,⟨[(0, .list 4),(1, .list 4),(2, .list 1),(33, .bool)],[],96⟩)]⟩]
def t2s:List CF:=
 [⟨u4l,G48⟩,⟨u4m,G47⟩,⟨u4n,G46⟩,⟨u4i,G51⟩,⟨u4j,G50⟩,⟨u4k,G49⟩,⟨u4o,G34⟩,⟨v09,F16⟩,⟨u4t,G15⟩]
def an12:Anns:=
 ⟨t2s,ja12,[]⟩
def G12:(p:Prim)→(LD×V32v)→Option (V2v):=
 fun p x=>let F:=p.ofNat (p.len x.2.2.1);let B:=(x.1,(x.2.1,(x.2.2.1,((p.cmp .gtr F 4110),()))));let C:=(x.1,(x.2.1,(x.2.2.1,(true,()))));
 opt.bnd (V50v) _ (
 opt.run (V50v) (
 opt.bnd (V2v) _ (G15 p (x.1,())) fun a=>
 aK a.1 (
 rT C) (
 opt.bnd (V2v) _ (G15 p (x.2.1,())) fun b=>
 aK b.1 (
 rT C) (
 aK (p.cmp .gtr F 100) (
 aK (p.cmp .leq F 4096) (
 rT C) (
 rT B)) (
 rT B))))) fun c=>let E:=(c.1,(c.2.1,()));let G:=(c.1,(c.2.1,(c.2.2.1,())));
 aK c.2.2.2.1 (
 opt.bnd (V2v) _ (G16 p ()) fun d=>
 rT d) (
 opt.bnd (V25v) _ (G46 p E) fun e=>
 opt.bnd (V25v) _ (G47 p E) fun f=>
 opt.bnd ((LD×V17v)) _ (G48 p E) fun g=>let A:=(g.1,(c.1,(c.2.1,(g.2.1,(g.2.2.1,(g.2.2.2.1,(true,())))))));
 opt.bnd ((LD×(LD×(LD×(Nat×(Nat×V24v)))))) _ (
 opt.run ((LD×(LD×(LD×(Nat×(Nat×V24v)))))) (
 nD (p.and (p.leN (p.add 0 (p.len e.1)) (p.len e.1)) (p.and (p.leN (p.add 0 (p.len f.1)) (p.len f.1)) true))<|
 opt.bnd (V2v) _ (G34 p ((p.cut e.1 0 (p.len e.1)),((p.cut f.1 0 (p.len f.1)),()))) fun h=>
 aK (bif h.1 then false else true) (
 rT A) (
 aK (p.cmp .neq e.2.1 f.2.1) (
 rT A) (
 opt.bnd (V1v) _ (G49 p E) fun i=>
 aK (p.cmp .neq g.2.2.2.1 i.1) (
 rT A) (
 opt.bnd (V1v) _ (G50 p G) fun j=>
 opt.bnd (V1v) _ (G51 p G) fun k=>
 rT (g.1,(c.1,(c.2.1,(g.2.1,(g.2.2.1,(g.2.2.2.1,((p.cmp .neq j.1 k.1),())))))))))))) fun l=>
 aK l.2.2.2.2.2.2.1 (
 rT (false,())) (
 aK (p.cmp .neq l.2.2.2.2.2.1 0) (
 opt.bnd (V2v) _ (
 opt.run (V2v) (
 aK (p.cmp .eql (p.ofNat l.2.2.2.2.1) (0:Int)) (
 opt.bnd (V2v) _ (G16 p ()) fun m=>
 rT m) (
 rT (false,())))) fun n=>
 rT n) (
 opt.bnd (V2v) _ (
 opt.run (V2v) (
 nD (p.and true (p.and true (p.and (p.leN (p.add l.2.2.2.1 l.2.2.2.2.1) (p.len l.1)) true)))<|
 opt.bnd (V1v) _ (G51 p (l.2.1,(l.2.2.1,((p.cut l.1 l.2.2.2.1 l.2.2.2.2.1),())))) fun o=>
 aK (p.cmp .eql o.1 0) (
 opt.bnd (V2v) _ (G16 p ()) fun q=>
 rT q) (
 rT (false,())))) fun r=>
 rT r)))
theorem ok12:CtrOk PG t3i (G12 std):=okF vE (a:=an12) (l:=la12) (gC ok48 (gC ok47 (gC ok46 (gC ok51 (gC ok50 (gC ok49 (gC ok34 (gC ok16 (gC ok15 (gN))))))))))
end Go.Am
end
section
namespace Go.Am
open D12
variable {fl fl':List Int→Bool}
theorem v83 (a b:List Int) (v:a.length≤1000000):v9m std (z0i a,(z0i b,()))=some (decide (a=b),()):=by
 by_cases g:a.length=b.length
 ·have key:=z11 (b:=x0e std) a.length (fun i=>(z0i a,(z0i b,((a.length:Int),((i:Int),()))))) (fun i=>!decide (a.getD i default=b.getD i default)) (.inl (false,())) (.inr ()) (fun i t=>by
   obtain ⟨m,hm⟩:=z0d t
   obtain ⟨q,c⟩:=z0d (l:=b) (i:=i) (by omega)
   obtain ⟨r,s⟩:=stp i (by omega)
   have d:(i:Int)<a.length:=by omega
   have p:=w86 hm
   have o:(b.map eI)[i]?=some (eI q):=by rw [eAj,c]; rfl
   rw [z0p hm,z0p c]
   by_cases e:m=q
   ·subst e
    simp only [x0e,z0j,z0k,z0i,z1n,z6v,z0o,eAa,eAb,eAc,p,o,d,s,r,eBp, ←g,eAh,if_false]
   ·simp only [x0e,z0j,z0k,z0i,z1n,z6v,z0o,eAa,eAb,eAc,p,o,d,s,r,e,eBp, ←g]) (by
   have n:¬ (a.length:Int)<a.length:=by omega
   simp only [x0e,z0j,z0k,n,if_false])
  have key:z1a (x0e std) (z0i a,(z0i b,((a.length:Int),((0:Int),()))))=_:=key
  rw [w4i default g] at key
  unfold v9m
  have k:(z0i a).length=a.length:=z0w a
  have j:(z0i b).length=b.length:=z0w b
  have f:(a.length:Int)=(b.length:Int):=by omega
  rw [f] at key
  by_cases e:a=b
  ·simp only [e,decide_true,eCp,eAh,if_false] at key
   subst e
   simp only [z0j,z0k,z0o,eAa,eAb,eAc,k,j,f,key]
  ·simp only [e,decide_false,eCn,if_true] at key
   simp only [z0j,z0k,z0o,eAa,eAb,eAc,k,j,f,key,e]
 ·unfold v9m
  have k:(z0i a).length=a.length:=z0w a
  have j:(z0i b).length=b.length:=z0w b
  have f:¬ (a.length:Int)=(b.length:Int):=by omega
  have u:a≠b:=fun h=>g (by rw [h])
  simp only [z0j,z0k,z0o,eAa,eAb,eAc,k,j,f,u,ne_eq]
theorem u6g (c d:Cd) (l:c.t.length≤1000000):G80 std (c.n,(c.k,(z0i c.t,(c.a,(d.n,(d.k,(z0i d.t,(d.a,()))))))))=some (decide (c=d),()):=by
 have b:=v83 c.t d.t l
 unfold G80
 by_cases e:c=d
 ·subst e
  rw [decide_eq_true rfl] at b
  simp only [z0j,z0k,z0o,eAa,eAb,eAc,b]
 ·have j:¬ (c.n=d.n∧c.k=d.k∧c.t=d.t∧c.a=d.a):=by
   rintro ⟨r,q,p,o⟩; exact e (by cases c; cases d; simp_all)
  by_cases f:c.n=d.n
  ·by_cases g:c.k=d.k
   ·by_cases i:c.a=d.a
    ·have m:¬ c.t=d.t:=fun h=>j ⟨f,g,h,i⟩
     rw [decide_eq_false m] at b
     simp only [z0j,z0k,z0o,eAa,eAb,eAc,b,e,f,g,i]
    ·simp only [z0j,z0k,z0o,eAa,eAb,eAc,e,f,g,i]
   ·simp only [z0j,z0k,z0o,eAa,eAb,eAc,e,f,g]
  ·simp only [z0j,z0k,z0o,eAa,eAb,eAc,e,f]
def EM (fl:List Int→Bool):w8e Int Cd:=⟨fun k=> .int .i64 k,fun c=> .agg (eC fl c),[.i],false,true,[.int .i64, .int .i64, .list 1, .int .i64]⟩
theorem x7w:(EM fl).Ok where
 agg:=fun _=>rfl
 kinds:=fun _=>rfl
 eq:=fun a b=>by
  show (bif IntKind.i64==IntKind.i64 then (some (z3z .eql a b&&true)) else none)=_
  rw [eDm]; rfl
 vagg:=fun _=>rfl
 vok:=fun _=>rfl
def x3x (l:List Cd):List (Int×Cd):=l.map fun c=>(c.n,c)
def x7f (fl:List Int→Bool) (m:List (Int×Cd)):List (D×D):=(EM fl).enc m
def fdC (l:List Cd) (x:Int):Option Cd:=l.find? fun c=>decide (c.n=x)
theorem w0j (x:Int):∀ l:List Cd,z2k (x3x l) x=fdC l x
 |[]=>rfl
 |c::l=>by
  have a:=w0j x l
  unfold x3x fdC at a⊢
  simp only [eFs,z2k,List.find?_cons]
  by_cases h:x=c.n
  ·simp [h]
  ·have:decide (c.n=x)=false:=by simpa using fun e=>h e.symm
   simp [h,this,a]
theorem v0l {l:List Cd} (e:(l.map (·.n)).Nodup) {c:Cd} (h:c∈l):fdC l c.n=some c:=by
 unfold fdC
 cases a:l.find? fun d=>decide (d.n=c.n) with
 |none=>
  rw [eFn] at a
  have:=a c h
  simp at this
 |some d=>
  have f:=eCv a
  have b:=eFj a
  simp only [decide_eq_true_eq] at b
  rw [z2f e d f c h b]
theorem x7a {l:List Cd} {x:Int} {c:Cd} (h:fdC l x=some c):c∈l∧c.n=x:=by
 have b:=eCv h
 have a:=eFj h
 simp only [decide_eq_true_eq] at a
 exact ⟨b,a⟩
section
variable (m:List (Int×Cd)) (x:Int)
theorem u8c:std.mOk (x7f fl m) [SK.i] false (.int .i64 x) true [.int .i64, .int .i64, .list 1, .int .i64]=true:=w4q x7w m x
theorem v2n:std.mhas (x7f fl m) [SK.i] false (.int .i64 x)=(z2k m x).isSome:=x8x x7w m x
variable {m x}
theorem M_0 {c:Cd} (h:z2k m x=some c):std.mI (x7f fl m) [SK.i] false (.int .i64 x) 0=c.n:=x80 x7w m x 0 h
theorem M_1 {c:Cd} (h:z2k m x=some c):std.mI (x7f fl m) [SK.i] false (.int .i64 x) 1=c.k:=x80 x7w m x 1 h
theorem M_2 {c:Cd} (h:z2k m x=some c):std.mL (x7f fl m) [SK.i] false (.int .i64 x) 2=z0i c.t:=by
 show dL (y41 _ _ _ _ _)=_
 rw [show y41 (x7f fl m) [SK.i] false (.int .i64 x) 2=_ from x35 x7w m x 2 h]; rfl
theorem M_3 {c:Cd} (h:z2k m x=some c):std.mI (x7f fl m) [SK.i] false (.int .i64 x) 3=c.a:=x80 x7w m x 3 h
theorem t4j (h:z2k m x=none) (c:Cd):std.madd (x7f fl m) (.int .i64 x) (.agg [.int .i64 c.n, .int .i64 c.k, .list (fl c.t) 1 (z0i c.t), .int .i64 c.a])=x7f fl (x5r m x c):=x8z x7w m x h c
end
theorem w9g {l:List Cd} {i:Nat} {c:Cd} (b:(l.map (·.n)).Nodup) (h:l[i]?=some c):z2k (x3x (l.take i)) c.n=none∧x5r (x3x (l.take i)) c.n c=x3x (l.take (i+1)):=by
 have g:z2k (x3x (l.take i)) c.n=none:=by
  rw [x5m]
  intro hm
  unfold x3x at hm
  rw [List.map_map] at hm
  obtain ⟨d,f,he⟩:=eBq.1 hm
  have he:d.n=c.n:=he
  have e:=List.mem_of_mem_take f
  have:=z2f b d e c (eAn h) he
  subst this
  obtain ⟨j,k,a⟩:=eBs.1 f
  rw [eCk] at k
  rw [List.getElem_take] at a
  have:=z74 b (i:=j) (by rw [eAd (by omega),a])
  have:=z74 b h
  omega
 refine ⟨g,?_⟩
 unfold x5r
 rw [g,eGb,h]
 simp [x3x]
theorem u6h (l:List Cd) (v:l.length≤60) (m:(l.map (·.n)).Nodup):G79 std (z0a fl l,())=some (x7f fl (x3x l),()):=by
 have key:=z3c (b:=w6s std) l.length (fun (_:Unit) i=>(x7f fl (x3x (l.take i)),(z0a fl l,((l.length:Int),((i:Int),()))))) (fun _ _=>True) (fun r=>r=(x7f fl (x3x l),()))
  (fun _ i o _=> .inl ⟨(),by
   obtain ⟨c,j⟩:=z0d o
   obtain ⟨k,u⟩:=stp i (by omega)
   have f:(i:Int)<l.length:=by omega
   obtain ⟨a,s⟩:=w9g m j
   have d:=y3q (fl:=fl) j
   have p:(z2k (x3x (l.take i)) c.n).isSome=false:=by rw [a]; rfl
   have h:=t4j (fl:=fl) a c
   rw [s] at h
   have q:std.rdF (l.map (eC fl)) i 2 1=fl c.t:=u0f ‹_›
   simp only [z0i] at h
   simp only [w6s,z0j,z0k,z0a,z0i,z02,z3j,z0a,z0i,z0o,eAa,eAb,eAc,d,f,u,k,u8c,v2n,p,q,h],trivial⟩)
  (fun _ _=>⟨(x7f fl (x3x l),()),by
   have e:¬ (l.length:Int)<l.length:=by omega
   rw [eDf]
   simp only [w6s,z0j,z0k,e,if_false],rfl⟩) () 0 (eBb _) trivial
 obtain ⟨r,a,rfl⟩:=key
 have a:z1a (w6s std) ([],(z0a fl l,((l.length:Int),((0:Int),()))))=_:=a
 unfold G79
 have g:(z0a fl l).length=l.length:=z0r l
 simp only [z0j,z0k,g,a]
theorem y8x {a b:List Cd}:y2h a b=0↔z13 a=0∧z13 b=0:=by
 unfold y2h; split
 ·rename_i h; exact ⟨fun e=>absurd e h,fun e=>absurd e.1 h⟩
 ·rename_i h; simp only [ne_eq,Decidable.not_not] at h; simp [h]
theorem w7r (a b:List Cd) (L:Few a) (K:Few b):G90 std (z0a fl a,(z0a fl' b,()))=some (z1y a b,()):=by
 have l:=u6i (fl:=fl) (fl':=fl') a b L K
 unfold G90
 by_cases h:y2h a b=0
 ·obtain ⟨B,A⟩:=y8x.1 h
  obtain ⟨O,I,V,U,N⟩:=z03 B
  obtain ⟨T,S,R,Q,P⟩:=z03 A
  have q:=u6h (fl:=fl) a O I
  have key:=z11 (b:=x7p std) b.length (fun i=>(x7f fl (x3x a),(z0a fl' b,((b.length:Int),((i:Int),()))))) (fun i=>match fdC a (b.getD i default).n with|some x=>!decide (x=b.getD i default)|none=>false) (.inl ((15:Int),())) (.inr ()) (fun i J=>by
   obtain ⟨c,G⟩:=z0d J
   obtain ⟨u,z⟩:=stp i (by omega)
   have k:(i:Int)<b.length:=by omega
   have d:=y3q (fl:=fl') G
   rw [z0p G]
   have g:=w0j c.n a
   cases j:fdC a c.n with
   |none=>
    rw [j] at g
    have r:(z2k (x3x a) c.n).isSome=false:=by rw [g]; rfl
    simp only [x7p,z0j,z0k,z0a,z0i,z02,z3j,z0a,z0i,z0o,eAa,eAb,eAc,d,k,z,u,u8c,v2n,r]
   |some x=>
    rw [j] at g
    have r:(z2k (x3x a) c.n).isSome=true:=by rw [g]; rfl
    have F:=M_0 (fl:=fl) g
    have E:=M_1 (fl:=fl) g
    have s:=M_2 (fl:=fl) g
    have C:=M_3 (fl:=fl) g
    have f:=u6g x c (by have:=(N x (x7a j).1).2.1; omega)
    simp only [z0i] at s f
    by_cases e:x=c
    ·subst e
     rw [decide_eq_true rfl] at f
     simp only [x7p,z0j,z0k,z0a,z0i,z02,z3j,z0a,z0i,z0o,eAa,eAb,eAc,d,k,z,u,u8c,v2n,r,F,E,s,C,f,eAh,if_false]
    ·rw [decide_eq_false e] at f
     simp only [x7p,z0j,z0k,z0a,z0i,z02,z3j,z0a,z0i,z0o,eAa,eAb,eAc,d,k,z,u,u8c,v2n,r,F,E,s,C,f,e]) (by
   have v:¬ (b.length:Int)<b.length:=by omega
   simp only [x7p,z0j,z0k,v,if_false])
  have key:z1a (x7p std) (x7f fl (x3x a),(z0a fl' b,((b.length:Int),((0:Int),()))))=_:=key
  have p:(z0a fl' b).length=b.length:=z0r b
  have H:((eAv b.length).any fun i=>match fdC a (b.getD i default).n with|some x=>!decide (x=b.getD i default)|none=>false)=true↔∃ x∈a,∃ y∈b,x.n=y.n∧x≠y:=by
   rw [z6l b default fun c=>match fdC a c.n with|some x=>!decide (x=c)|none=>false,eBd]
   constructor
   ·rintro ⟨y,t,j⟩
    cases o:fdC a y.n with
    |none=>rw [o] at j; cases j
    |some x=>
     rw [o] at j
     exact ⟨x,(x7a o).1,y,t,(x7a o).2,by simpa using j⟩
   ·rintro ⟨x,m,y,t,he,w⟩
    refine ⟨y,t,?_⟩
    rw [←he,v0l I m]
    simpa using w
  unfold z1y
  by_cases m:∃ x∈a,∃ y∈b,x.n=y.n∧x≠y
  ·rw [H.2 m] at key
   simp only [if_true] at key
   simp only [z0j,z0k,z0o,eAa,eAb,eAc,l,h,q,p,key,B,A,m,ne_eq]
  ·have o:((eAv b.length).any fun i=>match fdC a (b.getD i default).n with|some x=>!decide (x=b.getD i default)|none=>false)=false:=by
    rw [eGc]; exact fun e=>m (H.1 e)
   rw [o] at key
   simp only [eAh,if_false] at key
   simp only [z0j,z0k,z0o,eAa,eAb,eAc,l,h,q,p,key,B,A,m,ne_eq]
 ·have e:z1y a b=y2h a b:=by
   unfold z1y y2h
   unfold y2h at h
   split
   ·rfl
   ·rename_i M
    rw [if_neg M] at h
    rw [if_pos h]
  rw [e]
  simp only [z0j,z0k,z0o,eAa,eAb,eAc,l,h]
theorem v8z (n k a x:Int) (t:List Int) (c:t.length≤1000000):u6y std (n,(k,(z0i t,(a,(x,())))))=some (n,(k,(z0i t,(a,(t.contains x,()))))):=by
 have b:=u6l t x c
 unfold u6y
 simp only [z0j,z0k,b]
theorem v4q (c d:Cd) (v:c.t.length≤1000000) (u:d.t.length≤1000000):G92 std (c.n,(c.k,(z0i c.t,(c.a,(d.n,(d.k,(z0i d.t,(d.a,()))))))))=some (tch c d,()):=by
 have key:=z3b (b:=y09 std) c.t.length (fun i=>(d.n,(d.k,(z0i d.t,(d.a,(z0i c.t,((c.t.length:Int),((i:Int),()))))))))
  (fun i=>d.t.contains (c.t.getD i default)) (fun i=> .inl (d.n,(d.k,(z0i d.t,(d.a,((i:Int),())))))) (.inr (d.n,(d.k,(z0i d.t,(d.a,()))))) (fun i s=>by
  obtain ⟨x,o⟩:=z0d s
  obtain ⟨p,q⟩:=stp i (by omega)
  have g:(i:Int)<c.t.length:=by omega
  have m:=w86 o
  have f:=v8z d.n d.k d.a x d.t u
  rw [z0p o]
  simp only [z0i] at f
  cases h:d.t.contains x with
  |true=>
   rw [h] at f
   simp only [y09,z0j,z0k,z0i,z1n,z6v,z0o,eAa,eAb,eAc,m,g,q,p,f]
  |false=>
   rw [h] at f
   simp only [y09,z0j,z0k,z0i,z1n,z6v,z0o,eAa,eAb,eAc,m,g,q,p,f]) (by
  have j:¬ (c.t.length:Int)<c.t.length:=by omega
  simp only [y09,z0j,z0k,j,if_false])
 have key:z1a (y09 std) (d.n,(d.k,(z0i d.t,(d.a,(z0i c.t,((c.t.length:Int),((0:Int),())))))))=_:=key
 have e:=y5f c.t default fun x=>d.t.contains x
 have r:tch c d=(c.t.find? fun x=>d.t.contains x).isSome:=by
  unfold tch
  rw [eBu,eBd,List.find?_isSome]
 rw [r, ←e]
 have l:(z0i c.t).length=c.t.length:=z0w c.t
 unfold G92 w0o w0n
 simp only [z0j,z0k,l,key]
 cases h:(eAv c.t.length).find? fun i=>d.t.contains (c.t.getD i default) with
 |none=>simp
 |some i=>simp
theorem x7k {a b:List Cd} (u:(a.map (·.n)).Nodup) (t:(b.map (·.n)).Nodup):z5m [a,b]=z1j a b:=by
 have v:z5m [a,b]=b.foldl y8q a:=by
  have:=x7l u
  unfold z5m at this⊢
  simp only [eDo,List.foldl_nil] at this⊢
  rw [this]
 rw [v]
 unfold z1j
 have key:∀ (q p:List Cd),(q.map (·.n)).Nodup→(∀ c∈q,∀ d∈p,d∉a→d.n≠c.n)→(∀ d∈a,d∈p)→q.foldl y8q p=p++q.filter fun c=>!(a.any fun d=>decide (d.n=c.n)):=by
  intro q
  induction q with
  |nil=>intro p _ _ _; simp
  |cons c q o=>
   intro p r l k
   rw [eFs] at r
   have i:=eGm.1 r
   rw [eDo,List.filter_cons]
   by_cases h:(a.any fun d=>decide (d.n=c.n))=true
   ·have j:(p.any fun d=>decide (d.n=c.n))=true:=by
     obtain ⟨d,g,he⟩:=eBd.1 h
     exact eBd.2 ⟨d,k d g,he⟩
    have:y8q p c=p:=by unfold y8q; rw [if_pos j]
    rw [this,h]
    simp only [eCp,eAh,if_false]
    exact o p i.2 (fun e he d g f=>l e (eCq _ he) d g f) k
   ·have j:¬ (p.any fun d=>decide (d.n=c.n))=true:=by
     intro m
     obtain ⟨d,g,he⟩:=eBd.1 m
     by_cases f:d∈a
     ·exact h (eBd.2 ⟨d,f,he⟩)
     ·exact l c (eBv ..) d g f (by simpa using he)
    have:y8q p c=p++[c]:=by unfold y8q; rw [if_neg j]
    have s:(a.any fun d=>decide (d.n=c.n))=false:=by simpa using h
    rw [this,s]
    simp only [eCn,if_true]
    rw [o (p++[c]) i.2 (fun e he d g f=>by
     rcases eBx.1 g with g|g
     ·exact l e (eCq _ he) d g f
     ·rw [eBn.1 g]
      intro m
      exact i.1 (eBq.2 ⟨e,he,m.symm⟩)) (fun d g=>eDp _ (k d g))]
    simp
 exact key b a t (fun c _ d g f=>absurd g f) (fun d g=>g)
theorem v2j (a b:List Cd):(z1j a b).length≤a.length+b.length:=by
 unfold z1j; rw [eCz]; have:=List.length_filter_le (fun c=>!(a.any fun d=>decide (d.n=c.n))) b; omega
theorem z4k {a b:List Cd} (h:z1y a b=0):z13 a=0∧z13 b=0∧(∀ x∈a,∀ y∈b,x.n=y.n→x=y)∧((z1j a b).map (·.n)).Nodup∧(z1j a b).length≤120∧(∀ c∈z1j a b,c∈a∨c∈b)∧∀ c∈z1j a b,1≤c.t.length∧c.t.length≤3:=by
 obtain ⟨g,f,e⟩:=x7n.1 h
 obtain ⟨s,l,r,q,j⟩:=z03 g
 obtain ⟨p,k,o,m,i⟩:=z03 f
 have hm:∀ c∈z1j a b,c∈a∨c∈b:=fun c d=>(y2s e).1 d
 refine ⟨g,f,e,w7j l k,by have:=v2j a b; omega,hm,fun c d=>?_⟩
 rcases hm c d with d|d
 ·exact ⟨(j c d).1,(j c d).2.1⟩
 ·exact ⟨(i c d).1,(i c d).2.1⟩
theorem x4g {a b:List Cd} (h:z1y a b=0):∃ k,G66 std ([[.list false 4 (z0a fl a)],[.list false 4 (z0a fl b)]],())=some (z0a fl (z1j a b),(z6u (ixM (z1j a b)),(z1x k,(0,((z1j a b).length,())))))∧Rp k (z1j a b) (z69 a b):=by
 obtain ⟨s,r,n,l,A,hm,z⟩:=z4k h
 obtain ⟨y,x,w,C,p⟩:=z03 s
 obtain ⟨v,u,t,B,o⟩:=z03 r
 have j:t5v (z1j a b) [a,b]:=by
  refine ⟨l,fun m f c i=>?_,fun m f=>?_⟩
  ·rcases eBa.1 f with rfl|f
   ·exact (y2s n).2 (.inl i)
   ·rw [eBn.1 f] at i
    exact (y2s n).2 (.inr i)
  ·rcases eBa.1 f with rfl|f
   ·exact ⟨y,w,fun c i=>⟨(p c i).2.2,by have:=(p c i).2.1; omega⟩⟩
   ·rw [eBn.1 f]
    exact ⟨v,t,fun c i=>⟨(o c i).2.2,by have:=(o c i).2.1; omega⟩⟩
 have e:=x7k x u
 have g:=u6p (fl:=fl) [a,b] (by simp) (by rw [e]; exact j)
 have q:=v5i (g:=z1j a b) (dks:=[a,b]) l (by omega) (fun m f=>⟨j.mem m f,(j.wf m f).2.1,fun c i=>((j.wf m f).2.2 c i).1⟩)
 rw [e] at g
 exact ⟨_,g,q.congr fun d _ c _=>by simp [z69]⟩
theorem v27 {R:Cd→Cd→Bool} (l:∀ x y z,R x y=true→R y z=true→R x z=true):∀ (n:Nat) (rem:List Cd),rem.length≤n→(∀ x∈rem,R x x=false)→∀ c∈rem,∃ m∈rem,∀ d∈rem,R d m=false
 |0,rem,p,_,c,a=>by rw [eBw.1 (Nat.le_zero.1 p)] at a; cases a
 |n+1,rem,p,q,c,a=>by
  by_cases h:∃ d∈rem,R d c=true
  ·obtain ⟨d,k,j⟩:=h
   have o:(rem.filter fun x=>R x c).length<rem.length:=by
    refine Nat.lt_of_le_of_ne (List.length_filter_le _ _) fun e=>?_
    have:=List.length_filter_eq_length_iff.1 e c a
    rw [q c a] at this; cases this
   obtain ⟨m,hm,b⟩:=v27 l n (rem.filter fun x=>R x c) (by omega) (fun x r=>q x (eDb.1 r).1) d (eDb.2 ⟨k,j⟩)
   obtain ⟨i,g⟩:=eDb.1 hm
   refine ⟨m,i,fun e he=>?_⟩
   cases f:R e m with
   |false=>rfl
   |true=>
    have:=b e (eDb.2 ⟨he,l e m c f g⟩)
    rw [f] at this; cases this
  ·refine ⟨c,a,fun d k=>?_⟩
   cases f:R d c with
   |false=>rfl
   |true=>exact absurd ⟨d,k,f⟩ h
theorem y97 {R:Cd→Cd→Bool} {g:List Cd} (h:∀ x y z,R x y=true→R y z=true→R x z=true) (k:∀ x∈g,R x x=false):t40 R g:=by
 intro rem i e
 cases j:x2f R rem with
 |some c=>exact ⟨c,rfl⟩
 |none=>
  exfalso
  obtain ⟨c,n⟩:=List.exists_mem_of_ne_nil rem e
  obtain ⟨m,hm,a⟩:=v27 h rem.length rem (eAp _) (fun x f=>k x (i x f)) c n
  obtain ⟨d,l,b⟩:=(w6p R).1 j m hm
  rw [a d l] at b; cases b
theorem x83 {a b:List Cd} (c:∀ x∈a,∀ y∈b,x.n=y.n→x=y) (x y z:Cd) (e:kn a b x y=true) (d:kn a b y z=true):kn a b x z=true:=
 (y9m c).2 (((y9m c).1 e).trans ((y9m c).1 d))
def Unk (B:Cd→Cd→Bool) (c d:Cd):Bool:=tch c d&&!B d c&&!B c d
theorem v19 (I:List (D×D)) (r q v:Nat) (p o:Int) (g:List Cd) (W:g.length≤128) (T:∀ c∈g,c.t.length≤1000000) {B:Cd→Cd→Bool} (m:List Sg) (K:Rp m g B) (i:Nat) {c:Cd} (L:g[i]?=some c):
  z1a (x2i std) (z0a fl g,(I,(z1x m,(0,(g.length,(c.n,(c.k,(z0i c.t,(c.a,((i:Int),(r,(q,(p,(o,(0,(i,(v,((i:Int),((0:Int),())))))))))))))))))))=
   some (if (g.take i).any (Unk B c)=true then .inl (16,()) else .inr (z0a fl g,(I,(z1x m,(0,(g.length,(r,(q,(p,(o,())))))))))):=by
 have Q:i<g.length:=(eAe.1 L).1
 have key:=z11 (b:=x2i std) i (fun k=>(z0a fl g,(I,(z1x m,(0,(g.length,(c.n,(c.k,(z0i c.t,(c.a,((i:Int),(r,(q,(p,(o,(0,(i,(v,((i:Int),((k:Int),())))))))))))))))))))) (fun k=>Unk B c (g.getD k default)) (.inl (16,())) (.inr (z0a fl g,(I,(z1x m,(0,(g.length,(r,(q,(p,(o,()))))))))))
  (fun k C=>by
   obtain ⟨d,F⟩:=z0d (show k<g.length by omega)
   obtain ⟨J,M⟩:=stp k (by omega)
   have s:(k:Int)<(i:Int):=by omega
   have y:(0:Int)≤(i:Int):=by omega
   have w:(k:Int)<(g.length:Int):=by omega
   have x:(i:Int)<(g.length:Int):=by omega
   have l:=y3q (fl:=fl) F
   have f:=v4q c d (T c (eAn L)) (T d (eAn F))
   have u:∀ j,j<g.length→(m.map eS)[j]?=some (eS (m.getD j Sg.none)):=fun j V=>by
    rw [eAj,eAr,eAd (by rw [K.1]; exact V)]; rfl
   have O:=u i Q
   have N:=u k (by omega)
   have z:(m.map eS).length=g.length:=by rw [eBp,K.1]
   have A:=y3e (m.getD i Sg.none) k (by omega)
   have E:=y3e (m.getD k Sg.none) i (by omega)
   have S:=K.2 i c L k
   have R:=K.2 k d F i
   rw [F] at S
   rw [L] at R
   simp only at S R
   rw [S] at A
   rw [R] at E
   rw [z0p F]
   unfold Unk
   simp only [z0i] at f
   cases U:tch c d with
   |false=>
    rw [U] at f
    simp only [x2i,z0j,z0k,z0a,z0i,z02,z3j,z0a,z1x,z0i,z1u,z4o,z4n,z0o,eAa,eAb,eAc,s,M,J,l,f,eDn,if_false,eAh]
   |true=>
    rw [U] at f
    cases H:B d c with
    |true=>
     rw [H] at A
     simp only [x2i,z0j,z0k,z0a,z0i,z02,z3j,z0a,z1x,z0i,z1u,z4o,z4n,z0o,eAa,eAb,eAc,s,M,J,l,f,y,x,w,z,O,N,A,eDn,if_false,eAh]
    |false=>
     rw [H] at A
     cases G:B c d with
     |true=>
      rw [G] at E
      simp only [x2i,z0j,z0k,z0a,z0i,z02,z3j,z0a,z1x,z0i,z1u,z4o,z4n,z0o,eAa,eAb,eAc,s,M,J,l,f,y,x,w,z,O,N,A,E,eDn,if_false,eAh]
     |false=>
      rw [G] at E
      simp only [x2i,z0j,z0k,z0a,z0i,z02,z3j,z0a,z1x,z0i,z1u,z4o,z4n,z0o,eAa,eAb,eAc,s,M,J,l,f,y,x,w,z,O,N,A,E,eCc,if_true]) (by
  have P:¬ (i:Int)<(i:Int):=by omega
  simp only [x2i,z0j,z0k,P,if_false])
 have key:z1a (x2i std) (z0a fl g,(I,(z1x m,(0,(g.length,(c.n,(c.k,(z0i c.t,(c.a,((i:Int),(r,(q,(p,(o,(0,(i,(v,((i:Int),((0:Int),())))))))))))))))))))=_:=key
 rw [key]
 congr 1
 have e:((eAv i).any fun k=>Unk B c (g.getD k default))=(g.take i).any (Unk B c):=by
  rw [←z6l (g.take i) default (Unk B c),eCk,Nat.min_eq_left (by omega)]
  rw [eBu,eBd,eBd]
  have:∀ k,k<i→(g.take i).getD k default=g.getD k default:=fun k C=>by
   rw [eAr,eAr,eFl,if_pos C]
  constructor<;>rintro ⟨k,C,h⟩<;>refine ⟨k,C,?_⟩
  ·rw [this k (eBj.1 C)]; exact h
  ·rw [←this k (eBj.1 C)]; exact h
 rw [e]
theorem v2a (j:List (D×D)) (g:List Cd) (l:g.length≤128) (q:∀ c∈g,c.t.length≤1000000) {B:Cd→Cd→Bool} (d:List Sg) (r:Rp d g B):
  z1a (w2j std) (z0a fl g,(j,(z1x d,(0,(g.length,(0,(g.length,((g.length:Int),((0:Int),())))))))))=
   some (if ((eAv g.length).any fun i=>(g.take i).any (Unk B (g.getD i default)))=true then .inl (16,()) else .inr (z0a fl g,(j,(z1x d,(0,(g.length,())))))):=by
 have key:=z11 (b:=w2j std) g.length (fun i=>(z0a fl g,(j,(z1x d,(0,(g.length,(0,(g.length,((g.length:Int),((i:Int),())))))))))) (fun i=>(g.take i).any (Unk B (g.getD i default))) (.inl (16,())) (.inr (z0a fl g,(j,(z1x d,(0,(g.length,()))))))
  (fun i s=>by
   obtain ⟨c,m⟩:=z0d s
   obtain ⟨n,p⟩:=stp i (by omega)
   have e:(i:Int)<(g.length:Int):=by omega
   have f:(i:Int)≤(g.length:Int):=by omega
   have a:=y3q (fl:=fl) m
   have h:=v19 (fl:=fl) j 0 g.length i (g.length:Int) (i:Int) g l q d r i m
   rw [z0p m]
   simp only [z0a,z0i] at h
   cases o:(g.take i).any (Unk B c) with
   |true=>
    rw [o] at h
    simp only [w2j,z0j,z0k,z0a,z0i,z02,z3j,z0a,z0i,z0o,eAa,eAb,eAc,e,p,n,a,h,f,eDd,eCc,eFx,eBk,eGs,if_true]
   |false=>
    rw [o] at h
    simp only [w2j,z0j,z0k,z0a,z0i,z02,z3j,z0a,z0i,z0o,eAa,eAb,eAc,e,p,n,a,h,f,eDd,eCc,eFx,eBk,eGs,eAh,if_false]) (by
  have k:¬ (g.length:Int)<(g.length:Int):=by omega
  simp only [w2j,z0j,z0k,k,if_false])
 exact key
theorem x0r {a b:List Cd} (t:((z1j a b).map (·.n)).Nodup):((eAv (z1j a b).length).any fun i=>((z1j a b).take i).any (Unk (kn a b) ((z1j a b).getD i default)))=true↔v9b a b:=by
 unfold v9b
 generalize z1j a b=g at*
 rw [eBd]
 constructor
 ·rintro ⟨i,o,h⟩
  obtain ⟨c,r⟩:=z0d (eBj.1 o)
  rw [z0p r] at h
  obtain ⟨d,u,l⟩:=eBd.1 h
  unfold Unk at l
  simp only [eAf,eCy] at l
  refine ⟨c,eAn r,d,List.mem_of_mem_take u,?_,l.1.1,l.2,l.1.2⟩
  rintro rfl
  obtain ⟨j,m,e⟩:=eBs.1 u
  rw [eCk] at m
  rw [List.getElem_take] at e
  have:=z74 t (i:=j) (by rw [eAd (by omega),e])
  have:=z74 t r
  omega
 ·rintro ⟨x,A,y,z,p,s,w,v⟩
  obtain ⟨i,o,q⟩:=eBs.1 A
  obtain ⟨j,m,e⟩:=eBs.1 z
  have k:g[i]?=some x:=by rw [eAd o,q]
  have f:g[j]?=some y:=by rw [eAd m,e]
  rcases Nat.lt_trichotomy i j with h|h|h
  ·refine ⟨j,eBj.2 m,eBd.2 ⟨x,eAn (i:=i) (by rw [eFl,if_pos h]; exact k),?_⟩⟩
   rw [z0p f]
   simp [Unk,w8s y x,s,w,v]
  ·subst h
   rw [k] at f
   exact absurd (Option.some.inj f) p
  ·refine ⟨i,eBj.2 o,eBd.2 ⟨y,eAn (i:=j) (by rw [eFl,if_pos h]; exact f),?_⟩⟩
   rw [z0p k]
   simp [Unk,s,w,v]
theorem u6u (a b:List Cd) (F:Few a) (E:Few b):G46 std (z0a fl a,(z0a fl b,()))=some (z0a (fun _=>false) (z2m a b),(y3w a b,())):=by
 have j:=w7r (fl:=fl) (fl':=fl) a b F E
 unfold G46 z2m y3w
 by_cases h:z1y a b=0
 ·obtain ⟨H,G,p,w,K,hm,u⟩:=z4k h
  obtain ⟨S,R,J,Q,P⟩:=z03 H
  obtain ⟨O,N,I,M,L⟩:=z03 G
  obtain ⟨A,n,C⟩:=x4g (fl:=fl) h
  by_cases m:60<(z1j a b).length
  ·have d:(60:Int)<((z1j a b).length:Int):=by omega
   simp only [z0j,z0k,z0o,eAa,eAb,eAc,j,h,n,m,d,ne_eq]
   rfl
  ·have d:¬ (60:Int)<((z1j a b).length:Int):=by omega
   obtain ⟨l,q,v⟩:=u6m (z0a fl (z1j a b)) (z6u (ixM (z1j a b))) 0 (z1j a b) (by omega) A C
   have o:Rp l (z1j a b) (kn a b):=v.congr fun x _ y _=>by
    have:=congrFun (congrFun (u1h J I p) x) y
    exact this
   have k:=u6d (z0a fl (z1j a b)) (z6u (ixM (z1j a b))) 0 (z1j a b) (by omega) l o
   by_cases f:circ a b
   ·have r:((z1j a b).any fun c=>kn a b c c)=true:=eBd.2 f
    rw [r] at k
    simp only [z0j,z0k,z0o,eAa,eAb,eAc,j,h,n,m,d,q,k,f,ne_eq]
    rfl
   ·have r:((z1j a b).any fun c=>kn a b c c)=false:=by
     rw [eGc]
     exact fun e=>f (eBd.1 e)
    rw [r] at k
    have g:=v2a (fl:=fl) (z6u (ixM (z1j a b))) (z1j a b) (by omega) (fun c p=>by have:=(u c p).2; omega) l o
    by_cases t:v9b a b
    ·rw [(x0r w).2 t] at g
     simp only [if_true] at g
     simp only [z0j,z0k,z0o,eAa,eAb,eAc,j,h,n,m,d,q,k,f,g,t,ne_eq]
     rfl
    ·have:((eAv (z1j a b).length).any fun i=>((z1j a b).take i).any (Unk (kn a b) ((z1j a b).getD i default)))=false:=by
      rw [eGc]
      exact fun e=>t ((x0r w).1 e)
     rw [this] at g
     simp only [eAh,if_false] at g
     have s:∀ x∈z1j a b,kn a b x x=false:=fun x B=>by
      cases r:kn a b x x with
      |false=>rfl
      |true=>exact absurd ⟨x,B,r⟩ f
     have z:=u6o (fl:=fl) (z6u (ixM (z1j a b))) (z1j a b) l o (by omega) w (y97 (x83 p) s) (fun c p=>⟨(u c p).1,by have:=(u c p).2; omega⟩)
     simp only [z0j,z0k,z0o,eAa,eAb,eAc,j,h,n,m,d,q,k,f,g,t,z,ne_eq]
 ·simp only [z0j,z0k,z0o,eAa,eAb,eAc,j,h,ne_eq]
  rfl
def RvI (l L:List Int) (i:Nat):Prop:=L.length=l.length∧2*i≤l.length+1∧∀ k,k<l.length→L[k]?=if k<i∨l.length - i≤k then l[l.length - 1 - k]? else l[k]?
theorem w71 (l:List Int) (O:l.length≤1000000):y4s std (z0i l,())=some (z0i l.reverse,()):=by
 have key:=x1u (b:=y29 std) (fun (t:List Int×Nat)=>(z0i t.1,((t.2:Int),((l.length:Int) - 1 - (t.2:Int),())))) (fun t=>RvI l t.1 t.2) (fun t=>l.length+1 - t.2) (fun r=>r=(z0i l.reverse,()))
  (fun t E=>by
   obtain ⟨L,i⟩:=t
   obtain ⟨a,F,h⟩:=E
   simp only at a F h
   by_cases B:i<l.length - 1 - i
   ·left
    have C:l.length - 1 - i<l.length:=by omega
    have A:(l.length:Int) - 1 - (i:Int)=((l.length - 1 - i:Nat):Int):=by omega
    obtain ⟨x,p⟩:=z0d (show i<L.length by omega)
    obtain ⟨y,o⟩:=z0d (show l.length - 1 - i<L.length by omega)
    have m:(i:Int)<((l.length - 1 - i:Nat):Int):=by omega
    have N:(0:Int)≤(i:Int):=by omega
    have M:(0:Int)≤((l.length - 1 - i:Nat):Int):=by omega
    have K:(i:Int)<(l.length:Int):=by omega
    have J:((l.length - 1 - i:Nat):Int)<(l.length:Int):=by omega
    have w1:IntKind.i64.wrap ((i:Int)+1)=((i+1:Nat):Int):=y45 (by omega)
    have u:std.ar .sub .i64 ((l.length - 1 - i:Nat):Int) 1=(l.length:Int) - 1 - ((i+1:Nat):Int):=by
     rw [z49,y5q _ (by omega) (by omega)]; omega
    have v:=w86 p
    have n:=w86 o
    have c:(L.map eI).length=l.length:=by simp [a]
    have g:∀ z,((L.map eI).set i z).length=l.length:=fun z=>by simp [a]
    have e:((L.map eI).set i [D.int .i64 y]).set (l.length - 1 - i) [D.int .i64 x]=((L.set i y).set (l.length - 1 - i) x).map eI:=by simp [List.map_set,eI]
    have j:((L.map eI).set i [D.int .i64 y])[l.length - 1 - i]?=some (eI y):=by rw [eFa (by omega),n]
    have f:((L.set i y).set (l.length - 1 - i) x).length=l.length:=by simp [a]
    refine ⟨((L.set i y).set (l.length - 1 - i) x,i+1),?_,⟨by simp [a],by omega,fun k d=>?_⟩,by simp only; omega⟩
    ·simp only [A,y29,z0j,z0k,z0i,z1n,z6v,z0o,eAa,eAb,eAc,m,N,M,K,J,w1,u,v,n,j,c,g,e,f]
    ·have s:=h i (by omega)
     have q:=h (l.length - 1 - i) C
     rw [p,if_neg (by omega)] at s
     rw [o,if_neg (by omega)] at q
     by_cases H:k=l.length - 1 - i
     ·subst H
      rw [List.getElem?_set_self (by rw [eFz]; omega),if_pos (by omega),show l.length - 1 - (l.length - 1 - i)=i by omega,s]
     ·rw [eFa (by omega)]
      by_cases G:k=i
      ·subst G
       rw [List.getElem?_set_self (by omega),if_pos (by omega),q]
      ·rw [eFa (by omega),h k d]
       have:(k<i∨l.length - i≤k)↔(k<i+1∨l.length - (i+1)≤k):=by omega
       simp only [this]
   ·right
    have m:¬ (i:Int)<(l.length:Int) - 1 - (i:Int):=by omega
    refine ⟨(z0i L,()),by simp only [y29,z0j,z0k,m,if_false,z0o,eAa,eAb,eAc],?_⟩
    have:L=l.reverse:=by
     apply eCj
     intro k
     rcases eCu k l.length with d|d
     ·rw [h k d,List.getElem?_reverse d]
      split
      ·rfl
      ·have:l.length - 1 - k=k:=by omega
       rw [this]
     ·rw [eDv (by omega),eDv (by simp; omega)]
    rw [this]) (l,0) ⟨rfl,by omega,fun k d=>by rw [if_neg (by omega)]⟩
 obtain ⟨r,a,rfl⟩:=key
 have a:z1a (y29 std) (z0i l,((0:Int),((l.length:Int) - 1 - ((0:Nat):Int),())))=_:=a
 have I:(l.length:Int) - 1 - ((0:Nat):Int)=(l.length:Int) - 1:=by omega
 rw [I] at a
 have w:std.ar .sub .i64 (l.length:Int) 1=(l.length:Int) - 1:=by rw [z49,y5q _ (by omega) (by omega)]
 have c:(z0i l).length=l.length:=z0w l
 unfold y4s
 simp only [z0j,z0k,c,w,a]
def Rdy (B:Cd→Cd→Bool) (rem:List Cd) (c:Cd):Bool:=decide (c∈rem)&&z4c B rem c
theorem v15 (o:List (D×D)) (off len:Nat) (C:List (List D)) (g rem:List Cd) (c:List Sg) {B:Cd→Cd→Bool} (y:Rp c g B) (E:g.length≤128) (J:Inj g) (p:∀ x∈rem,x∈g) {s:Sg} (I:x7x g rem s):
  z1a (x5h std) (C,(o,(z1x c,((s.a:Int),((s.b:Int),(false,(off,(len,((s.a:Int),((s.b:Int),((g.length:Int),((0:Int),()))))))))))))=
   some (match (eAv g.length).find? fun i=>Rdy B rem (g.getD i default) with
    |some i=> .inl (C,(o,(z1x c,(((s.wth i).a:Int),(((s.wth i).b:Int),(true,(off,(len,((s.a:Int),((s.b:Int),()))))))))))
    |none=> .inr (C,(o,(z1x c,((s.a:Int),((s.b:Int),(false,(off,(len,((s.a:Int),((s.b:Int),()))))))))))):=by
 have key:=z3b (b:=x5h std) g.length (fun i=>(C,(o,(z1x c,((s.a:Int),((s.b:Int),(false,(off,(len,((s.a:Int),((s.b:Int),((g.length:Int),((i:Int),()))))))))))))) (fun i=>Rdy B rem (g.getD i default))
  (fun i=> .inl (C,(o,(z1x c,(((s.wth i).a:Int),(((s.wth i).b:Int),(true,(off,(len,((s.a:Int),((s.b:Int),()))))))))))) (.inr (C,(o,(z1x c,((s.a:Int),((s.b:Int),(false,(off,(len,((s.a:Int),((s.b:Int),())))))))))))
  (fun j H=>by
   obtain ⟨d,n⟩:=z0d H
   obtain ⟨t,v⟩:=stp j (by omega)
   have l:(j:Int)<g.length:=by omega
   have k:=y3e s j (by omega)
   rw [I j d n] at k
   have w:c[j]?=some (c.getD j Sg.none):=by rw [eAr,eAd (by rw [y.1]; exact H)]; rfl
   have e:(c.map eS)[j]?=some (eS (c.getD j Sg.none)):=by rw [eAj,w]; rfl
   have m:(c.map eS).length=g.length:=by rw [eBp,y.1]
   have f:=w7w (c.getD j Sg.none) s
   have q:=x3r y E J p I n
   have F:=w7s s j (by omega)
   rw [z0p n]
   unfold Rdy
   by_cases hm:d∈rem
   ·by_cases u:z4c B rem d=true
    ·obtain ⟨M,L⟩:=q.2 u
     rw [M,L] at f
     simp only [x5h,z0j,z0k,z1x,z1u,z4o,z4n,z0o,eAa,eAb,eAc,l,v,t,k,hm,e,m,f,F,u,eCc,if_true]
    ·have A:¬ ((((c.getD j Sg.none).and s).a:Int)=((c.getD j Sg.none).a:Int)∧(((c.getD j Sg.none).and s).b:Int)=((c.getD j Sg.none).b:Int)):=fun h=>u (q.1 ⟨by omega,by omega⟩)
     have r:z4c B rem d=false:=by simpa using u
     by_cases G:(((c.getD j Sg.none).and s).a:Int)=((c.getD j Sg.none).a:Int)
     ·have K:¬ (((c.getD j Sg.none).and s).b:Int)=((c.getD j Sg.none).b:Int):=fun h=>A ⟨G,h⟩
      simp only [x5h,z0j,z0k,z1x,z1u,z4o,z4n,z0o,eAa,eAb,eAc,l,v,t,k,hm,e,m,f,G,K,r,eGq,eAh,if_false]
     ·simp only [x5h,z0j,z0k,z1x,z1u,z4o,z4n,z0o,eAa,eAb,eAc,l,v,t,k,hm,e,m,f,G,r,eGq,eAh,if_false]
   ·simp only [x5h,z0j,z0k,z1x,z1u,z4o,z4n,z0o,eAa,eAb,eAc,l,v,t,k,hm,e,m,eDn,eAh,if_false]) (by
  have z:¬ (g.length:Int)<g.length:=by omega
  simp only [x5h,z0j,z0k,z,if_false,z0o,eAa,eAb,eAc])
 exact key
structure u8d (B:Cd→Cd→Bool) (g rem:List Cd) (s:Sg):Prop where
 sub:∀ x∈rem,x∈g
 nd:rem.Nodup
 done:x7x g rem s
 circ:∀ z∈g,Tc B z z→z∈rem
theorem v16 (q:List (D×D)) (off len:Nat) (C:List (List D)) (g:List Cd) (l:List Sg) {B:Cd→Cd→Bool} (M:∀ x y,B x y=true→x∈g) (I:Rp l g B) (G:g.length≤128) (A:(g.map (·.n)).Nodup):
  ∃ rem s,z1a (w2h std) (C,(q,(z1x l,((0:Int),((0:Int),(true,(off,(len,()))))))))=some (C,(q,(z1x l,((s.a:Int),((s.b:Int),(off,(len,())))))))∧u8d B g rem s∧∀ c∈rem,z4c B rem c=false:=by
 have K:=z2f A
 have key:=x1u (b:=w2h std) (fun (t:List Cd×Sg×Bool)=>(C,(q,(z1x l,((t.2.1.a:Int),((t.2.1.b:Int),(t.2.2,(off,(len,()))))))))) (fun t=>u8d B g t.1 t.2.1∧(t.2.2=false→∀ c∈t.1,z4c B t.1 c=false)) (fun t=>2*t.1.length+(if t.2.2=true then 1 else 0))
  (fun r=>∃ rem s,r=(C,(q,(z1x l,((s.a:Int),((s.b:Int),(off,(len,())))))))∧u8d B g rem s∧∀ c∈rem,z4c B rem c=false)
  (fun t L=>by
   obtain ⟨rem,s,more⟩:=t
   obtain ⟨f,hE⟩:=L
   simp only at f hE
   cases more with
   |false=>exact .inr ⟨(C,(q,(z1x l,((s.a:Int),((s.b:Int),(off,(len,()))))))),by simp only [w2h,z0j,z0k,z0o,eAa,eAb,eAc],rem,s,rfl,f,hE rfl⟩
   |true=>
    left
    have p:=v15 q off len C g rem l I G K f.sub f.done
    have v:(z1x l).length=g.length:=by rw [x16,I.1]
    cases m:(eAv g.length).find? fun i=>Rdy B rem (g.getD i default) with
    |none=>
     rw [m] at p
     refine ⟨(rem,s,false),by simp only [w2h,z0j,z0k,z0o,eAa,eAb,eAc,v,p],⟨f,fun _ c o=>?_⟩,by simp⟩
     rw [eFn] at m
     obtain ⟨i,u,he⟩:=eBs.1 (f.sub c o)
     have:=m i (eBj.2 u)
     rw [z0p (by rw [eAd u,he])] at this
     simpa [Rdy,o] using this
    |some k=>
     rw [m] at p
     have F:=eBj.1 (eCv m)
     have w:=eFj m
     obtain ⟨c,o⟩:=z0d F
     rw [z0p o] at w
     unfold Rdy at w
     rw [eAf,decide_eq_true_eq] at w
     refine ⟨(rm c rem,s.wth k,true),by simp only [w2h,z0j,z0k,z0o,eAa,eAb,eAc,v,p],⟨⟨fun x J=>f.sub x (y0f.1 J).1,f.nd.filter _,fun j d E=>?_,?_⟩,by simp⟩,?_⟩
     ·simp only
      rw [Sg.has_wth _ (by omega),f.done j d E]
      by_cases e:j=k
      ·subst e
       rw [o] at E; cases E
       simp [y0f]
      ·have H:d≠c:=by
        rintro rfl
        exact e ((z74 A E).symm.trans (z74 A o))
       simp [y0f,e,H]
     ·exact x66 M f.circ ((z5c B).1 w.2)
     ·have:=y6h f.nd w.1
      simp only [if_true]; omega) (g,Sg.none,true) ⟨⟨fun x h=>h,z3k A,fun k c F=>by rw [Sg.has_none]; simp [eAn F],fun z h _=>h⟩,fun h=>by cases h⟩
 obtain ⟨r,O,rem,s,rfl,p,N⟩:=key
 exact ⟨rem,s,O,p,N⟩
theorem u6b (C B:List (List D)) (off len:Nat) (g:List Cd) (l:g.length≤128) (s:Sg) (c:Cd) (j:c∈g) (k a:Int) (t:List (List D)):
  G99 std (C,(z6u (ixM g),(B,((s.a:Int),((s.b:Int),(off,(len,(c.n,(k,(t,(a,())))))))))))=some (C,(z6u (ixM g),(B,((s.a:Int),((s.b:Int),(off,(len,(!(s.has (gi g c)),())))))))):=by
 have f:=w41 j
 have i:(z2k (ixM g) c.n).isSome=true:=by rw [f]; rfl
 have e:=v2k f
 have d:=y3e s (gi g c) (by have:=x65 j; omega)
 unfold G99
 cases h:s.has (gi g c) with
 |true=>rw [h] at d; simp only [z0j,z0k,z0o,eAa,eAb,eAc,w8d,y8r,i,e,d,eAh,if_false]
 |false=>rw [h] at d; simp only [z0j,z0k,z0o,eAa,eAb,eAc,w8d,y8r,i,e,d,eAh,if_false]
theorem u6c (B:List (List D)) (g rem:List Cd) (l:g.length≤128) (p:(g.map (·.n)).Nodup) (s:Sg) (r:x7x g rem s):
  G98 std (z0a fl g,(z6u (ixM g),(B,((s.a:Int),((s.b:Int),(0,(g.length,(0,(g.length,())))))))))=some (z0a fl g,(z6u (ixM g),(B,((s.a:Int),((s.b:Int),(0,(g.length,((match (eAv g.length).find? fun i=>decide (g.getD i default∈rem) with|some i=>(i:Int)|none=> -1),())))))))):=by
 have key:=z3b (b:=w19 std) g.length (fun i=>(z0a fl g,(z6u (ixM g),(B,((s.a:Int),((s.b:Int),(0,(g.length,(0,(g.length,((g.length:Int),((i:Int),())))))))))))) (fun i=>decide (g.getD i default∈rem))
  (fun i=> .inl (z0a fl g,(z6u (ixM g),(B,((s.a:Int),((s.b:Int),(0,(g.length,((i:Int),()))))))))) (.inr (z0a fl g,(z6u (ixM g),(B,((s.a:Int),((s.b:Int),(0,(g.length,()))))))))
  (fun i q=>by
   obtain ⟨c,h⟩:=z0d q
   obtain ⟨m,o⟩:=stp i (by omega)
   have f:(i:Int)<(g.length:Int):=by omega
   have e:=y3q (fl:=fl) h
   have d:=u6b (z0a fl g) B 0 g.length g l s c (eAn h) c.k c.a (z0i c.t)
   rw [z74 p h,r i c h] at d
   rw [z0p h]
   simp only [z0a,z0i] at d
   by_cases hm:c∈rem
   ·simp only [hm,decide_true,eCp,eCn] at d
    simp only [w19,z0j,z0k,z0a,z0i,z02,z3j,z0a,z0i,z0o,eAa,eAb,eAc,f,o,m,e,d,hm]
   ·simp only [hm,decide_false,eCp,eCn] at d
    simp only [w19,z0j,z0k,z0a,z0i,z02,z3j,z0a,z0i,z0o,eAa,eAb,eAc,f,o,m,e,d,hm,eAh,if_false]) (by
  have j:¬ (g.length:Int)<(g.length:Int):=by omega
  simp only [w19,z0j,z0k,j,if_false,z0o,eAa,eAb,eAc])
 have key:z1a (w19 std) (z0a fl g,(z6u (ixM g),(B,((s.a:Int),((s.b:Int),(0,(g.length,(0,(g.length,((g.length:Int),((0:Int),())))))))))))=_:=key
 unfold G98
 simp only [z0j,z0k,key]
 cases (eAv g.length).find? fun i=>decide (g.getD i default∈rem)<;>rfl
theorem v13 (t u:List (D×D)) (r C:List (List D)) (off:Nat) (g rem:List Cd) (e:List Sg) {B:Cd→Cd→Bool} (G:Rp e g B) (P:g.length≤128) (w:∀ x∈rem,x∈g) {s:Sg} (R:x7x g rem s) {j:Nat} {c:Cd} (M:g[j]?=some c) (Q:z4c B rem c=false):
  ∃ (k:Nat) (d:Cd),z1a (x5g std) (t,(r,(C,(u,(z1x e,((s.a:Int),((s.b:Int),(off,(g.length,((j:Int),((g.length:Int),((0:Int),()))))))))))))=some (t,(r,(C,(u,(z1x e,((s.a:Int),((s.b:Int),(off,(g.length,((k:Int),()))))))))))∧g[k]?=some d∧d∈rem∧B d c=true:=by
 have I:j<g.length:=(eAe.1 M).1
 have key:=z3b (b:=x5g std) g.length (fun i=>(t,(r,(C,(u,(z1x e,((s.a:Int),((s.b:Int),(off,(g.length,((j:Int),((g.length:Int),((i:Int),()))))))))))))) (fun i=>B (g.getD i default) c&&decide (g.getD i default∈rem))
  (fun i=>(t,(r,(C,(u,(z1x e,((s.a:Int),((s.b:Int),(off,(g.length,((i:Int),()))))))))))) (t,(r,(C,(u,(z1x e,((s.a:Int),((s.b:Int),(off,(g.length,((j:Int),()))))))))))
  (fun i E=>by
   obtain ⟨d,o⟩:=z0d E
   obtain ⟨F,K⟩:=stp i (by omega)
   have l:(i:Int)<(g.length:Int):=by omega
   have n:(0:Int)≤(j:Int):=by omega
   have m:(j:Int)<(g.length:Int):=by omega
   have f:(e.map eS)[j]?=some (eS (e.getD j Sg.none)):=by
    rw [eAj,eAr,eAd (by rw [G.1]; exact I)]; rfl
   have p:(e.map eS).length=g.length:=by rw [eBp,G.1]
   have q:=y3e (e.getD j Sg.none) i (by omega)
   have L:=G.2 j c M i
   rw [o] at L
   simp only at L
   rw [L] at q
   have v:=y3e s i (by omega)
   rw [R i d o] at v
   rw [z0p o]
   cases N:B d c with
   |false=>
    rw [N] at q
    simp only [x5g,z0j,z0k,z1x,z1u,z4o,z4n,z0o,eAa,eAb,eAc,l,K,F,n,m,f,p,q,eDn,eAh,if_false]
   |true=>
    rw [N] at q
    by_cases hm:d∈rem
    ·simp only [hm,decide_true,eCp] at v
     simp only [x5g,z0j,z0k,z1x,z1u,z4o,z4n,z0o,eAa,eAb,eAc,l,K,F,n,m,f,p,q,v,hm,eCc,eAh,if_false,if_true]
    ·simp only [hm,decide_false,eCn] at v
     simp only [x5g,z0j,z0k,z1x,z1u,z4o,z4n,z0o,eAa,eAb,eAc,l,K,F,n,m,f,p,q,v,hm,eGq,eAh,if_false,if_true]) (by
  have H:¬ (g.length:Int)<(g.length:Int):=by omega
  simp only [x5g,z0j,z0k,H,if_false,z0o,eAa,eAb,eAc])
 have key:z1a (x5g std) (t,(r,(C,(u,(z1x e,((s.a:Int),((s.b:Int),(off,(g.length,((j:Int),((g.length:Int),((0:Int),()))))))))))))=_:=key
 cases y:(eAv g.length).find? fun i=>B (g.getD i default) c&&decide (g.getD i default∈rem) with
 |none=>
  exfalso
  rw [eFn] at y
  have:z4c B rem c=true:=by
   rw [z5c]
   intro d z
   obtain ⟨i,E,he⟩:=eBs.1 (w d z)
   have h:=y i (eBj.2 E)
   rw [z0p (by rw [eAd E,he])] at h
   simpa [z] using h
  rw [Q] at this; cases this
 |some k=>
  rw [y] at key
  have O:=eBj.1 (eCv y)
  have J:=eFj y
  obtain ⟨d,A⟩:=z0d O
  rw [z0p A,eAf,decide_eq_true_eq] at J
  exact ⟨k,d,key,A,J.2,J.1⟩
def Chn (B:Cd→Cd→Bool):List Cd→Prop
 |[]=>True
 |[_]=>True
 |x::y::l=>B x y=true∧Chn B (y::l)
theorem Chn.left {B:Cd→Cd→Bool}:∀ {p q:List Cd},Chn B (p++q)→Chn B p
 |[],_,_=>trivial
 |[_],_,_=>trivial
 |x::y::p,q,h=>⟨h.1,Chn.left (p:=y::p) (q:=q) h.2⟩
def wm (g w:List Cd):List (Int×Nat):=(w.map fun c=>(gi g c:Int)).zipIdx
theorem u1r {g:List Cd} (a:Inj g) {c d:Cd} (f:c∈g) (e:d∈g) (h:gi g c=gi g d):c=d:=by
 have b:=y2y a f
 rw [h,y2y a e] at b
 exact (Option.some.inj b).symm
theorem w5e {w:List Cd} {f:Cd→Int} {c:Cd} (a:∀ d∈w,f d=f c→d=c):(w.map f).idxOf (f c)=w.idxOf c:=by
 induction w with
 |nil=>rfl
 |cons x w b=>
  rw [eFs,List.idxOf_cons,List.idxOf_cons]
  by_cases h:x=c
  ·subst h; simp
  ·have j:(x==c)=false:=by simpa using h
   have i:(f x==f c)=false:=by
    rw [beq_eq_false_iff_ne]
    exact fun e=>h (a x (eBv ..) e)
   rw [j,i,b fun d g=>a d (eCq _ g)]
theorem v2s {g w:List Cd} (i:Inj g) (e:∀ c∈w,c∈g) {c:Cd} (j:c∈g):z2k (wm g w) (gi g c:Int)=if c∈w then some (w.idxOf c) else none:=by
 unfold wm
 rw [x2l]
 have b:∀ d∈w,((gi g d:Nat):Int)=((gi g c:Nat):Int)→d=c:=fun d a h=>u1r i (e d a) j (by omega)
 by_cases h:c∈w
 ·rw [if_pos h,if_pos (eGt (f:=fun c=>((gi g c:Nat):Int)) h),w5e (f:=fun c=>((gi g c:Nat):Int)) b,eAy]
 ·rw [if_neg h,if_neg]
  intro hm
  obtain ⟨d,a,he⟩:=eBq.1 hm
  exact h (b d a he▸a)
theorem v9p {g w:List Cd} {c:Cd} (h:z2k (wm g w) (gi g c:Int)=none):x5r (wm g w) (gi g c:Int) w.length=wm g (w++[c]):=by
 unfold x5r; rw [h]
 unfold wm
 rw [List.map_append,List.zipIdx_append]
 simp
structure u8a (B:Cd→Cd→Bool) (g rem w:List Cd) (c:Cd):Prop where
 sub:∀ x∈w,x∈g
 nd:w.Nodup
 cur:c∈rem
 ch:Chn B (c::w.reverse)
theorem x0w {w g:List Cd} (a:w.Nodup) (hg:g.Nodup) (b:∀ x∈w,x∈g):w.length≤g.length:=by
 have:w.Perm (g.filter fun x=>decide (x∈w)):=x6j a (hg.filter _) fun x=>by
  rw [eDb,decide_eq_true_eq]; exact ⟨fun h=>⟨b x h,h⟩,fun h=>h.2⟩
 rw [this.length_eq]
 exact List.length_filter_le _ _
theorem v14 (v:List (D×D)) (g rem:List Cd) (m:List Sg) {B:Cd→Cd→Bool} (S:Rp m g B) (I:g.length≤128) (C:(g.map (·.n)).Nodup) {s:Sg} (M:u8d B g rem s) (l:∀ c∈rem,z4c B rem c=false) {N:Cd} (L:N∈rem):
  ∃ (w:List Cd) (c:Cd),z1a (w60 std) ([],(z0a fl g,(v,(z1x m,([],((s.a:Int),((s.b:Int),(0,(g.length,((gi g N:Int),()))))))))))=
   some (z6u (wm g w),(z0i (w.map (·.n)),(z0a fl g,(v,(z1x m,(0,(g.length,((gi g c:Int),()))))))))∧c∈w∧u8a B g rem w c:=by
 have G:=z2f C
 have u:=z3k C
 have key:=x1u (b:=w60 std) (fun (t:List Cd×Cd)=>(z6u (wm g t.1),(z0a fl g,(v,(z1x m,(z0i (t.1.map (·.n)),((s.a:Int),((s.b:Int),(0,(g.length,((gi g t.2:Int),()))))))))))) (fun t=>u8a B g rem t.1 t.2) (fun t=>g.length - t.1.length)
  (fun r=>∃ (w:List Cd) (c:Cd),r=(z6u (wm g w),(z0i (w.map (·.n)),(z0a fl g,(v,(z1x m,(0,(g.length,((gi g c:Int),()))))))))∧c∈w∧u8a B g rem w c)
  (fun t j=>by
   obtain ⟨w,c⟩:=t
   simp only at j
   have i:=M.sub c j.cur
   have o:=v2s G j.sub i
   have U:=x65 i
   by_cases hm:c∈w
   ·right
    rw [if_pos hm] at o
    have H:(z2k (wm g w) (gi g c:Int)).isSome=true:=by rw [o]; rfl
    exact ⟨_,by simp only [w60,z0j,z0k,z0o,eAa,eAb,eAc,w8d,y8r,H],w,c,rfl,hm,j⟩
   ·left
    rw [if_neg hm] at o
    have H:(z2k (wm g w) (gi g c:Int)).isSome=false:=by rw [o]; rfl
    have O:=v8u o w.length
    rw [v9p o] at O
    have p:(g.map (eC fl))[gi g c]?=some (eC fl c):=by rw [eAj,y2y G i]; rfl
    have c1:(0:Int)≤(gi g c:Int):=by omega
    have c2:(gi g c:Int)<(g.length:Int):=by omega
    have R:=x0w j.nd u j.sub
    have c3:w.length+1≤1000000:=by omega
    have c4:((w.map fun x=>x.n).map eI).length=w.length:=by simp
    have Z:((w.map fun x=>x.n).map eI).take w.length=(w.map fun x=>x.n).map eI:=eBz (by simp)
    have A:((w.map fun x=>x.n).map eI)++[[D.int .i64 c.n]]=((w++[c]).map fun x=>x.n).map eI:=by simp [eI]
    obtain ⟨k,d,P,T,J,K⟩:=v13 (z6u (wm g (w++[c]))) v (((w++[c]).map fun x=>x.n).map eI) (g.map (eC fl)) 0 g rem m S I M.sub M.done (y2y G i) (l c j.cur)
    have F:=z74 C T
    have q:(w++[c]).Nodup:=List.nodup_append.2 ⟨j.nd,by simp,fun x z y Q=>by rw [eBn.1 Q]; exact fun e=>hm (e▸z)⟩
    have f:∀ x∈w++[c],x∈g:=fun x z=>by
     rcases eBx.1 z with h|h
     ·exact j.sub x h
     ·rw [eBn.1 h]; exact i
    have E:=x0w q u f
    rw [eCz,List.length_singleton] at E
    have Y:(w++[c]).length=w.length+1:=by simp
    refine ⟨(w++[c],d),?_,⟨f,q,J,?_⟩,by simp only [eCz,List.length_singleton]; omega⟩
    ·rw [←F] at P
     simp only [w60,z0j,z0k,z0a,z0i,z02,z3j,z0a,z0i,z0o,eAa,eAb,eAc,w8d,y8r,H,c4,O,p,c1,c2,c3,Z,eAy,eAp,eCo,List.take_succ_cons,eGg,A,P,eCc,Y]
    ·rw [List.reverse_append,List.reverse_singleton]
     exact ⟨K,j.ch⟩) ([],N) ⟨fun x h=>(by cases h),List.nodup_nil,L,trivial⟩
 obtain ⟨r,X,w,c,rfl,W,V⟩:=key
 exact ⟨w,c,X,W,V⟩
def v9a (a b cs:List Cd):Prop:=∃ c d,cs=c::(d++[c])∧d≠[]∧d.length≤120∧(∀ x∈cs,x∈z1j a b)∧Chn (z69 a b) cs
theorem v4a {B:Cd→Cd→Bool}:∀ {m:List Cd} {x y:Cd},Chn B (x::(m++[y]))→Tc B x y
 |[],_,_,h=> .one h.1
 |_::m,_,_,h=>(Tc.one h.1).trans (v4a (m:=m) h.2)
theorem w6g {a b:List Cd} (h:z1y a b=0):circ a b↔∃ z∈z1j a b,Tc (z69 a b) z z:=by
 obtain ⟨f,e,d,j,k,hm,i⟩:=z4k h
 unfold circ
 constructor<;>rintro ⟨z,g,c⟩<;>refine ⟨z,g,?_⟩
 ·exact (x0s (z03 f).2.2.1 (z03 e).2.2.1).2 ((y9m d).1 c)
 ·exact (y9m d).2 ((x0s (z03 f).2.2.1 (z03 e).2.2.1).1 c)
theorem w25 {a b rem w:List Cd} {c:Cd} (g:u8a (z69 a b) (z1j a b) rem w c) (n:(z1j a b).length≤120) (l:(z1j a b).Nodup) (j:c∈w):
  ((w.drop (w.idxOf c))++[c]).reverse=c::((w.drop (w.idxOf c+1)).reverse++[c])∧v9a a b (c::((w.drop (w.idxOf c+1)).reverse++[c])):=by
 have m:=eDc j
 have hg:w[w.idxOf c]?=some c:=by rw [eAd m,eGk]
 have k:=v0w hg
 have f:w=w.take (w.idxOf c)++c::w.drop (w.idxOf c+1):=by rw [←k,List.take_append_drop]
 refine ⟨by rw [k]; simp,c,(w.drop (w.idxOf c+1)).reverse,rfl,?_,?_,?_,?_⟩
 ·intro e
  have d:=g.ch
  rw [f,List.reverse_append,List.reverse_cons,e] at d
  have:z69 a b c c=true:=d.1
  rcases eBh _ _▸(show (ltc a c c||ltc b c c)=true from this) with h|h
  ·exact v2x (y1z h).1 rfl
  ·exact v2x (y1z h).1 rfl
 ·have:=x0w g.nd l g.sub
  rw [List.length_reverse,eGe]; omega
 ·intro x i
  apply g.sub
  rcases eBa.1 i with rfl|i
  ·exact j
  ·rcases eBx.1 i with h|h
   ·exact List.mem_of_mem_drop (List.mem_reverse.1 h)
   ·rw [eBn.1 h]; exact j
 ·have d:=g.ch
  rw [f,List.reverse_append,List.reverse_cons] at d
  have:Chn (z69 a b) ((c::((w.drop (w.idxOf c+1)).reverse++[c]))++(w.take (w.idxOf c)).reverse):=by
   have o:w.idxOf c=w.idxOf c:=rfl
   simpa using d
  exact this.left
theorem u6s (a b:List Cd) (ha:Few a) (hb:Few b):
  (z1y a b≠0∧G48 std (z0a fl a,(z0a fl b,()))=some ([],(0,(0,(z1y a b,())))))∨
  (z1y a b=0∧¬ circ a b∧G48 std (z0a fl a,(z0a fl b,()))=some ([],(0,(0,(5,())))))∨
  (z1y a b=0∧circ a b∧∃ cs:List Cd,G48 std (z0a fl a,(z0a fl b,()))=some (z0i (cs.map (·.n)),(0,(cs.length,(0,()))))∧v9a a b cs):=by
 have g:=w7r (fl:=fl) (fl':=fl) a b ha hb
 by_cases h:z1y a b=0
 ·right
  obtain ⟨da,db,hc,j,Z,hm,ht⟩:=z4k h
  obtain ⟨B,o,S⟩:=x4g (fl:=fl) h
  have hB:∀ x y,z69 a b x y=true→x∈z1j a b:=fun x y F=>(y66 hc (z7u F)).1
  obtain ⟨rem,s,N,A,hE⟩:=v16 (z6u (ixM (z1j a b))) 0 (z1j a b).length (z0a fl (z1j a b)) (z1j a b) B hB S (by omega) j
  have d:=u6c (fl:=fl) (z1x B) (z1j a b) rem (by omega) j s A.done
  cases p:(eAv (z1j a b).length).find? fun i=>decide ((z1j a b).getD i default∈rem) with
  |none=>
   left
   rw [p] at d
   refine ⟨h,fun K=>?_,?_⟩
   ·obtain ⟨z,R,H⟩:=(w6g h).1 K
    have E:=A.circ z R H
    obtain ⟨i,T,he⟩:=eBs.1 R
    rw [eFn] at p
    have:=p i (eBj.2 T)
    rw [z0p (by rw [eAd T,he])] at this
    simp [E] at this
   ·unfold G48
    simp only [z0j,z0k,z0o,eAa,eAb,eAc,g,h,o,N,d]
  |some k=>
   right
   rw [p] at d
   have hk:=eBj.1 (eCv p)
   have U:=eFj p
   obtain ⟨c0,v⟩:=z0d hk
   rw [z0p v,decide_eq_true_eq] at U
   have I:=z74 j v
   obtain ⟨w,c,M,l,q⟩:=v14 (fl:=fl) (z6u (ixM (z1j a b))) (z1j a b) rem B S (by omega) j A hE U
   rw [I] at M
   obtain ⟨t,V⟩:=w25 q Z (z3k j) l
   refine ⟨h,(w6g h).2 ⟨c,A.sub c q.cur,?_⟩,_,?_,V⟩
   ·obtain ⟨W,C,e,_,_,_,L⟩:=V
    have e1:c=W∧(w.drop (w.idxOf c+1)).reverse++[c]=C++[W]:=by simpa using e
    obtain ⟨rfl,e2⟩:=e1
    exact v4a L
   ·have m:=A.sub c q.cur
    have G:=v2s (z2f j) q.sub m
    rw [if_pos l] at G
    have hh:(z2k (wm (z1j a b) w) (gi (z1j a b) c:Int)).isSome=true:=by rw [G]; rfl
    have J:=v2k G
    have a1:=x65 m
    have a0:=eDc l
    have r:((z1j a b).map (eC fl))[gi (z1j a b) c]?=some (eC fl c):=by rw [eAj,y2y (z2f j) m]; rfl
    have Y:=x0w q.nd (z3k j) q.sub
    have Q:¬ ((k:Int)<0):=by omega
    have c1:(0:Int)≤(w.idxOf c:Int):=by omega
    have c2:(w.idxOf c:Int)≤(w.length:Int):=by omega
    have c3:(0:Int)≤(gi (z1j a b) c:Int):=by omega
    have c4:(gi (z1j a b) c:Int)<((z1j a b).length:Int):=by omega
    have c5:¬ (w.length - w.idxOf c+1≤w.length - w.idxOf c):=by omega
    have P:w.idxOf c+(w.length - w.idxOf c)≤w.length:=by omega
    have c6:w.length - w.idxOf c+1≤1000000:=by omega
    have c7:((w.map fun x=>x.n).map eI).length=w.length:=by simp
    have c8:(((w.map fun x=>x.n).map eI).drop (w.idxOf c)).take (w.length - w.idxOf c)=(((w.drop (w.idxOf c))).map fun x=>x.n).map eI:=by
     rw [←List.map_drop, ←List.map_drop]
     exact eBz (by simp)
    have c9:((((w.drop (w.idxOf c))).map fun x=>x.n).map eI)++[[D.int .i64 c.n]]=(((w.drop (w.idxOf c))++[c]).map fun x=>x.n).map eI:=by simp [eI]
    have X:List.take 1 (List.drop 0 [[D.int .i64 c.n]])=[[D.int .i64 c.n]]:=rfl
    have O:(((((w.drop (w.idxOf c))++[c]).map fun x=>x.n).map eI)).length=w.length - w.idxOf c+1:=by simp
    have f:=w71 ((((w.drop (w.idxOf c))++[c]).map fun x=>x.n)) (by simp; omega)
    rw [←List.map_reverse,t] at f
    have u:(c::((w.drop (w.idxOf c+1)).reverse++[c])).length=w.length - w.idxOf c+1:=by simp; omega
    rw [u]
    simp only [z0a,z0i] at g o N d M f
    unfold G48
    simp only [z0j,z0k,z0a,z0i,z02,z3j,z0a,z0i,z0o,eAa,eAb,eAc,g,h,o,N,d,M,Q,w8d,y8r,hh,J,r,c1,c2,c3,c4,c5,c6,c7,c8,c9,P,f,eAy,eAp,eDd,eCc,List.take_succ_cons,eGg,X,O]
 ·left
  refine ⟨h,?_⟩
  unfold G48
  simp only [z0j,z0k,z0o,eAa,eAb,eAc,g,h]
def y4y (l:List Cd) (x y:Int):Bool:=match atO l x,atO l y with
 |some i,some k=>decide (i<k)&&tch (l.getD i default) (l.getD k default)
 |_,_=>false
theorem x0i {l:List Cd} {x:Int} {i:Nat} (h:atO l x=some i):i<l.length:=eBj.1 (eCv h)
theorem v8x (l:List Cd) (x:Int) (k:l.length≤1000000):v9k std (x,(z0a fl l,()))=some (x,(atI l x,())):=by
 have key:=z3b (b:=x0d std) l.length (fun i=>(x,(z0a fl l,((l.length:Int),((i:Int),()))))) (fun i=>decide ((l.getD i default).n=x)) (fun i=> .inl (x,((i:Int),()))) (.inr (x,())) (fun i j=>by
  obtain ⟨m,hm⟩:=z0d j
  obtain ⟨f,g⟩:=stp i (by omega)
  have c:(i:Int)<l.length:=by omega
  have a:=y3q (fl:=fl) hm
  rw [z0p hm]
  by_cases e:m.n=x
  ·simp only [x0d,u7d,z0j,z0k,z0a,z0i,z02,z3j,z0a,z0o,eAa,eAb,eAc,a,c,g,f,e]
  ·simp only [x0d,u7d,z0j,z0k,z0a,z0i,z02,z3j,z0a,z0o,eAa,eAb,eAc,a,c,g,f,e]) (by
  have h:¬ (l.length:Int)<l.length:=by omega
  simp only [x0d,z0j,z0k,h])
 have key:z1a (x0d std) (x,(z0a fl l,((l.length:Int),((0:Int),()))))=_:=key
 have d:(z0a fl l).length=l.length:=z0r l
 unfold v9k atI atO
 simp only [z0j,z0k,d,key]
 cases (eAv l.length).find? fun i=>decide ((l.getD i default).n=x)<;>rfl
theorem w7o (l:List Cd) (x:Int) (k:l.length≤1000000):x0n std (x,(z0a fl l,()))=some (x,(atI l x,())):=by
 have key:=z3b (b:=y08 std) l.length (fun i=>(x,(z0a fl l,((l.length:Int),((i:Int),()))))) (fun i=>decide ((l.getD i default).n=x)) (fun i=> .inl (x,((i:Int),()))) (.inr (x,())) (fun i j=>by
  obtain ⟨m,hm⟩:=z0d j
  obtain ⟨f,g⟩:=stp i (by omega)
  have c:(i:Int)<l.length:=by omega
  have a:=y3q (fl:=fl) hm
  rw [z0p hm]
  by_cases e:m.n=x
  ·simp only [y08,u7c,z0j,z0k,z0a,z0i,z02,z3j,z0a,z0o,eAa,eAb,eAc,a,c,g,f,e]
  ·simp only [y08,u7c,z0j,z0k,z0a,z0i,z02,z3j,z0a,z0o,eAa,eAb,eAc,a,c,g,f,e]) (by
  have h:¬ (l.length:Int)<l.length:=by omega
  simp only [y08,z0j,z0k,h])
 have key:z1a (y08 std) (x,(z0a fl l,((l.length:Int),((0:Int),()))))=_:=key
 have d:(z0a fl l).length=l.length:=z0r l
 unfold x0n atI atO
 simp only [z0j,z0k,d,key]
 cases (eAv l.length).find? fun i=>decide ((l.getD i default).n=x)<;>rfl
theorem w70 (l:List Cd) (x y:Int) (r:l.length≤1000000) (s:Few l):v9o std (z0a fl l,(x,(y,())))=some (y4y l x y,()):=by
 have e:=v8x (fl:=fl) l x r
 have b:=w7o (fl:=fl) l y r
 unfold atI at e b
 unfold v9o y4y
 cases p:atO l x with
 |none=>
  rw [p] at e
  have m:¬ (0:Int)≤ -1:=by omega
  simp only [z0j,z0k,z0o,eAa,eAb,eAc,e,b,m]
 |some i=>
  rw [p] at e
  have n:(0:Int)≤(i:Int):=by omega
  have w:=x0i p
  obtain ⟨c,j⟩:=z0d w
  cases o:atO l y with
  |none=>
   rw [o] at b
   have m:¬ (i:Int)< -1:=by omega
   simp only [z0j,z0k,z0o,eAa,eAb,eAc,e,b,n,m]
  |some k=>
   rw [o] at b
   have q:(0:Int)≤(k:Int):=by omega
   have v:=x0i o
   obtain ⟨d,h⟩:=z0d v
   have u:=y3q (fl:=fl) j
   have t:=y3q (fl:=fl) h
   have g:=v4q c d (s c (eAn j)) (s d (eAn h))
   simp only [z0a,z0i] at e b g
   simp only [z0p j,z0p h]
   by_cases f:i<k
   ·have a:(i:Int)<(k:Int):=by omega
    simp only [z0j,z0k,z0a,z0i,z02,z3j,z0a,z0i,z0o,eAa,eAb,eAc,e,b,n,q,f,a,u,t,j,h,g,Bool.true_and]
   ·have a:¬ (i:Int)<(k:Int):=by omega
    simp only [z0j,z0k,z0a,z0i,z02,z3j,z0a,z0i,z0o,eAa,eAb,eAc,e,b,n,q,f,a,eDn]
theorem w7z (l:List Cd) (x y:Int) (r:l.length≤1000000) (s:Few l):v9n std (z0a fl l,(x,(y,())))=some (y4y l x y,()):=by
 have e:=x0p (fl:=fl) l x r
 have b:=x0p (fl:=fl) l y r
 unfold atI at e b
 unfold v9n y4y
 cases p:atO l x with
 |none=>
  rw [p] at e
  have m:¬ (0:Int)≤ -1:=by omega
  simp only [z0j,z0k,z0o,eAa,eAb,eAc,e,b,m]
 |some i=>
  rw [p] at e
  have n:(0:Int)≤(i:Int):=by omega
  have w:=x0i p
  obtain ⟨c,j⟩:=z0d w
  cases o:atO l y with
  |none=>
   rw [o] at b
   have m:¬ (0:Int)≤ -1:=by omega
   simp only [z0j,z0k,z0o,eAa,eAb,eAc,e,b,n,m]
  |some k=>
   rw [o] at b
   have q:(0:Int)≤(k:Int):=by omega
   have v:=x0i o
   obtain ⟨d,h⟩:=z0d v
   have u:=y3q (fl:=fl) j
   have t:=y3q (fl:=fl) h
   have g:=w7v c d (s c (eAn j)) (s d (eAn h))
   simp only [z0a,z0i] at e b g
   simp only [z0p j,z0p h]
   by_cases f:i<k
   ·have a:(i:Int)<(k:Int):=by omega
    simp only [z0j,z0k,z0a,z0i,z02,z3j,z0a,z0i,z0o,eAa,eAb,eAc,e,b,n,q,f,a,u,t,j,h,g,Bool.true_and]
   ·have a:¬ (i:Int)<(k:Int):=by omega
    simp only [z0j,z0k,z0a,z0i,z02,z3j,z0a,z0i,z0o,eAa,eAb,eAc,e,b,n,q,f,a,eDn]
def x28 (a b:List Cd) (x y:Int):Bool:=y4y a x y||y4y b x y
def v8s (a b:List Cd) (c:List Int):Bool:=(eAv (c.length - 1)).all fun i=>x28 a b (c.getD i 0) (c.getD (i+1) 0)
def v8d (a b:List Cd) (c:List Int):Int:=
 if z1y a b≠0 then z1y a b else if c.length<3∨4096<c.length then 6 else if v8s a b c=false then 14 else if c.getD (c.length - 1) 0=c.getD 0 0 then 0 else 14
theorem w7k (a b:List Cd) (c:List Int):((eAv (c.length - 1)).any fun i=>!x28 a b (c.getD i 0) (c.getD (i+1) 0))=!v8s a b c:=by
 unfold v8s
 rw [eBu]
 simp
theorem w7q (a b:List Cd) (J:Few a) (P:Few b):G93 std (z0a fl a,(z0a fl' b,()))=some (z1y a b,()):=by
 have u:=u6f (fl:=fl) (fl':=fl') a b J P
 unfold G93
 by_cases h:y2h a b=0
 ·obtain ⟨G,F⟩:=y8x.1 h
  obtain ⟨Z,Y,X,W,V⟩:=z03 G
  obtain ⟨U,Q,T,S,R⟩:=z03 F
  have key:=z11 (b:=x7o std) a.length (fun i=>(z0a fl a,(z0a fl' b,((i:Int),())))) (fun i=>match atO b (a.getD i default).n with|some k=>!decide (a.getD i default=b.getD k default)|none=>false) (.inl ((15:Int),())) (.inr ()) (fun i O=>by
   obtain ⟨c,C⟩:=z0d O
   obtain ⟨w,E⟩:=stp i (by omega)
   have s:(i:Int)<a.length:=by omega
   have g:=y3q (fl:=fl) C
   have l:(a.map (eC fl)).length=a.length:=by simp
   have f:=x0p (fl:=fl') b c.n (by omega)
   unfold atI at f
   rw [z0p C]
   cases p:atO b c.n with
   |none=>
    rw [p] at f
    have L:¬ (0:Int)≤ -1:=by omega
    simp only [z0a] at f
    simp only [x7o,z0j,z0k,z0a,z0i,z02,z3j,z0a,z0i,z0o,eAa,eAb,eAc,g,l,s,E,w,f,L,eAh,if_false]
   |some k=>
    rw [p] at f
    have I:(0:Int)≤(k:Int):=by omega
    obtain ⟨d,t⟩:=z0d (x0i p)
    have H:=y3q (fl:=fl') t
    have m:=v4r c d (J c (eAn C))
    simp only [z0a,z0i] at f m
    simp only [z0p t]
    by_cases e:c=d
    ·subst e
     rw [decide_eq_true rfl] at m
     simp only [x7o,z0j,z0k,z0a,z0i,z02,z3j,z0a,z0i,z0o,eAa,eAb,eAc,g,l,s,E,w,f,I,H,t,m,eAh,if_false]
    ·rw [decide_eq_false e] at m
     simp only [x7o,z0j,z0k,z0a,z0i,z02,z3j,z0a,z0i,z0o,eAa,eAb,eAc,g,l,s,E,w,f,I,H,t,m,e,eAh,if_false]) (by
   have z:¬ (a.length:Int)<a.length:=by omega
   have l:(z0a fl a).length=a.length:=z0r a
   simp only [x7o,z0j,z0k,l,z,if_false])
  have key:z1a (x7o std) (z0a fl a,(z0a fl' b,((0:Int),())))=_:=key
  have K:((eAv a.length).any fun i=>match atO b (a.getD i default).n with|some k=>!decide (a.getD i default=b.getD k default)|none=>false)=true↔∃ x∈a,∃ y∈b,x.n=y.n∧x≠y:=by
   rw [z6l a default fun c=>match atO b c.n with|some k=>!decide (c=b.getD k default)|none=>false,eBd]
   constructor
   ·rintro ⟨x,r,p⟩
    cases q:atO b x.n with
    |none=>rw [q] at p; cases p
    |some k=>
     rw [q] at p
     obtain ⟨d,t⟩:=z0d (x0i q)
     have o:=eFj q
     simp only [z0p t] at p o
     exact ⟨x,r,d,eAn t,by simpa using (of_decide_eq_true o).symm,by simpa using p⟩
   ·rintro ⟨x,r,y,M,he,A⟩
    refine ⟨x,r,?_⟩
    obtain ⟨k,N,B⟩:=eBs.1 M
    have v:b[k]?=some y:=by rw [eAd N,B]
    have o:=y5l Q v
    rw [←he] at o
    unfold atI at o
    cases q:atO b x.n with
    |none=>rw [q] at o; simp only at o; omega
    |some j=>
     rw [q] at o
     simp only at o
     have:j=k:=by omega
     subst this
     simp only [z0p v]
     simpa using A
  unfold z1y
  by_cases r:∃ x∈a,∃ y∈b,x.n=y.n∧x≠y
  ·rw [K.2 r] at key
   simp only [if_true] at key
   simp only [z0j,z0k,z0o,eAa,eAb,eAc,u,h,key,G,F,r,ne_eq]
  ·have q:((eAv a.length).any fun i=>match atO b (a.getD i default).n with|some k=>!decide (a.getD i default=b.getD k default)|none=>false)=false:=by
    rw [eGc]; exact fun e=>r (K.1 e)
   rw [q] at key
   simp only [eAh,if_false] at key
   simp only [z0j,z0k,z0o,eAa,eAb,eAc,u,h,key,G,F,r,ne_eq]
 ·have e:z1y a b=y2h a b:=by
   unfold z1y y2h
   unfold y2h at h
   split
   ·rfl
   ·rename_i o
    rw [if_neg o] at h
    rw [if_pos h]
  rw [e]
  simp only [z0j,z0k,z0o,eAa,eAb,eAc,u,h]
theorem u6q (a b:List Cd) (c:List Int) (M:Few a) (L:Few b) (G:a.length≤1000000) (F:b.length≤1000000) (N:c.length≤1000000):G50 std (z0a fl a,(z0a fl' b,(z0i c,())))=some (v8d a b c,()):=by
 have d:=w7r (fl:=fl) (fl':=fl') a b M L
 have v:(z0i c).length=c.length:=z0w c
 unfold G50 v8d
 by_cases h:z1y a b=0
 ·by_cases w:c.length<3
  ·have f:(c.length:Int)<3:=by omega
   simp only [z0j,z0k,z0o,eAa,eAb,eAc,d,h,v,w,f,ne_eq,true_or]
  ·have f:¬ (c.length:Int)<3:=by omega
   by_cases A:4096<c.length
   ·have j:(4096:Int)<(c.length:Int):=by omega
    simp only [z0j,z0k,z0o,eAa,eAb,eAc,d,h,v,w,f,A,j,ne_eq,or_true]
   ·have j:¬ (4096:Int)<(c.length:Int):=by omega
    have t:(1:Int)≤(c.length:Int):=by omega
    have s:(c.map eI).drop 1=(c.drop 1).map eI:=by simp
    have p:((c.drop 1).map eI).take (c.length - 1)=(c.drop 1).map eI:=eBz (by simp)
    have r:((c.drop 1).map eI).length=c.length - 1:=by simp
    have key:=z11 (b:=x7s std) (c.length - 1) (fun i=>(z0a fl a,(z0a fl' b,(c.map eI,(c.getD i 0,((c.drop 1).map eI,(((c.length - 1:Nat):Int),((i:Int),())))))))) (fun i=>!x28 a b (c.getD i 0) (c.getD (i+1) 0)) (.inl ((14:Int),())) (.inr (c.map eI,(c.getD (c.length - 1) 0,()))) (fun i O=>by
     obtain ⟨x,o⟩:=z0d (show i<c.length by omega)
     obtain ⟨y,K⟩:=z0d (show i+1<c.length by omega)
     obtain ⟨C,H⟩:=stp i (by omega)
     have q:(i:Int)<((c.length - 1:Nat):Int):=by omega
     have k:(c.drop 1)[i]?=some y:=by rw [eDh,Nat.add_comm]; exact K
     have m:((c.drop 1).map eI)[i]?=some (eI y):=by rw [eAj,k]; rfl
     have z:=w70 (fl:=fl) a x y G M
     have B:=w70 (fl:=fl') b x y F L
     simp only [z0p o,z0p K]
     unfold x28
     cases J:y4y a x y with
     |true=>
      rw [J] at z
      simp only [x7s,z0j,z0k,z1n,z6v,z0o,eAa,eAb,eAc,k,m,q,H,C,z,Bool.true_or,eAh,if_false]
     |false=>
      rw [J] at z
      cases I:y4y b x y with
      |true=>
       rw [I] at B
       simp only [x7s,z0j,z0k,z1n,z6v,z0o,eAa,eAb,eAc,k,m,q,H,C,z,B,Bool.or_true,eAh,if_false]
      |false=>
       rw [I] at B
       simp only [x7s,z0j,z0k,z1n,z6v,z0o,eAa,eAb,eAc,k,m,q,H,C,z,B,eGd,eAh,if_false]) (by
     have E:¬ ((c.length - 1:Nat):Int)<((c.length - 1:Nat):Int):=by omega
     simp only [x7s,z0j,z0k,E,if_false])
    rw [w7k] at key
    obtain ⟨x,o⟩:=z0d (show 0<c.length by omega)
    have n:=w86 o
    have u:c.getD 0 0=x:=z0p o
    have key:z1a (x7s std) (z0a fl a,(z0a fl' b,(c.map eI,(c.getD 0 0,((c.drop 1).map eI,(((c.length - 1:Nat):Int),((0:Int),())))))))=_:=key
    rw [u] at key
    have g:(c.map eI).length=c.length:=by simp
    cases l:v8s a b c with
    |false=>
     rw [l] at key
     simp only [eCn,if_true] at key
     simp only [z0j,z0k,z1n,z6v,z0i,z0o,eAa,eAb,eAc,d,h,g,w,f,A,j,t,o,n,s,p,r,key,ne_eq,or_self,eDd,eCc,eFx,Int.toNat_one]
    |true=>
     rw [l] at key
     simp only [eCp,eAh,if_false] at key
     rw [u]
     by_cases e:c.getD (c.length - 1) 0=x
     ·simp only [z0j,z0k,z1n,z6v,z0i,z0o,eAa,eAb,eAc,d,h,g,w,f,A,j,t,o,n,s,p,r,key,ne_eq,or_self,eDd,eCc,eFx,Int.toNat_one,e,Bool.true_eq_false,if_false]
     ·simp only [z0j,z0k,z1n,z6v,z0i,z0o,eAa,eAb,eAc,d,h,g,w,f,A,j,t,o,n,s,p,r,key,ne_eq,or_self,eDd,eCc,eFx,Int.toNat_one,e,Bool.true_eq_false,if_false]
 ·simp only [z0j,z0k,z0o,eAa,eAb,eAc,d,h,ne_eq]
theorem v4v (a b:List Cd) (c:List Int) (N:Few a) (M:Few b) (G:a.length≤1000000) (F:b.length≤1000000) (O:c.length≤1000000):G51 std (z0a fl a,(z0a fl' b,(z0i c,())))=some (v8d a b c,()):=by
 have g:=w7q (fl:=fl) (fl':=fl') a b N M
 have s:(z0i c).length=c.length:=z0w c
 unfold G51 v8d
 by_cases h:z1y a b=0
 ·by_cases t:c.length<3
  ·have j:(c.length:Int)<3:=by omega
   simp only [z0j,z0k,z0o,eAa,eAb,eAc,g,h,s,t,j,ne_eq,true_or]
  ·have j:¬ (c.length:Int)<3:=by omega
   by_cases w:4096<c.length
   ·have k:(4096:Int)<(c.length:Int):=by omega
    simp only [z0j,z0k,z0o,eAa,eAb,eAc,g,h,s,t,j,w,k,ne_eq,or_true]
   ·have k:¬ (4096:Int)<(c.length:Int):=by omega
    have w1:∀ i:Nat,i<1000000→std.ar .sub .i64 ((i+1:Nat):Int) 1=(i:Int):=fun i P=>by
     rw [z49,y5q _ (by omega) (by omega)]; omega
    have key:=z11 (b:=x7r std) (c.length - 1) (fun i=>(z0a fl a,(z0a fl' b,(c.map eI,(((i+1:Nat):Int),()))))) (fun i=>!x28 a b (c.getD i 0) (c.getD (i+1) 0)) (.inl ((14:Int),())) (.inr (c.map eI,())) (fun i P=>by
     obtain ⟨x,l⟩:=z0d (show i<c.length by omega)
     obtain ⟨y,r⟩:=z0d (show i+1<c.length by omega)
     obtain ⟨C,H⟩:=stp (i+1) (by omega)
     have B:=w1 i (by omega)
     have p:(0:Int)≤(i:Int):=by omega
     have o:((i+1:Nat):Int)<(c.length:Int):=by omega
     have f:=w86 l
     have n:=w86 r
     have d:(c.map eI).length=c.length:=by simp
     have u:=w7z (fl:=fl) a x y G N
     have A:=w7z (fl:=fl') b x y F M
     simp only [z0p l,z0p r]
     unfold x28
     cases L:y4y a x y with
     |true=>
      rw [L] at u
      simp only [x7r,z0j,z0k,z1n,z6v,z0o,eAa,eAb,eAc,l,r,f,n,d,o,H,p,C,B,u,Bool.true_or,eAh,if_false]
     |false=>
      rw [L] at u
      cases K:y4y b x y with
      |true=>
       rw [K] at A
       simp only [x7r,z0j,z0k,z1n,z6v,z0o,eAa,eAb,eAc,l,r,f,n,d,o,H,p,C,B,u,A,Bool.or_true,eAh,if_false]
      |false=>
       rw [K] at A
       simp only [x7r,z0j,z0k,z1n,z6v,z0o,eAa,eAb,eAc,l,r,f,n,d,o,H,p,C,B,u,A,eGd,eAh,if_false]) (by
     have Q:c.length - 1+1=c.length:=by omega
     have E:¬ (c.length:Int)<(c.length:Int):=by omega
     have d:(c.map eI).length=c.length:=by simp
     rw [Q]
     simp only [x7r,z0j,z0k,E,d,if_false])
    rw [w7k] at key
    obtain ⟨x,l⟩:=z0d (show 0<c.length by omega)
    obtain ⟨z,v⟩:=z0d (show c.length - 1<c.length by omega)
    have f:=w86 l
    have q:=w86 v
    have J:std.ar .sub .i64 (c.length:Int) 1=((c.length - 1:Nat):Int):=by
     rw [z49,y5q _ (by omega) (by omega)]; omega
    have I:(0:Int)≤((c.length - 1:Nat):Int):=by omega
    have key:z1a (x7r std) (z0a fl a,(z0a fl' b,(c.map eI,((1:Int),()))))=_:=key
    have d:(c.map eI).length=c.length:=by simp
    cases m:v8s a b c with
    |false=>
     rw [m] at key
     simp only [eCn,if_true] at key
     simp only [z0j,z0k,z1n,z6v,z0i,z0o,eAa,eAb,eAc,g,h,d,t,j,w,k,key,ne_eq,or_self]
    |true=>
     rw [m] at key
     simp only [eCp,eAh,if_false] at key
     simp only [z0p l,z0p v]
     by_cases e:x=z
     ·subst e
      simp only [z0j,z0k,z1n,z6v,z0i,z0o,eAa,eAb,eAc,g,h,d,t,j,w,k,l,v,f,q,J,I,key,ne_eq,or_self,eFx,Bool.true_eq_false,if_false]
     ·have R:¬ z=x:=fun h=>e h.symm
      simp only [z0j,z0k,z1n,z6v,z0i,z0o,eAa,eAb,eAc,g,h,d,t,j,w,k,l,v,f,q,J,I,key,ne_eq,or_self,eFx,e,R,Bool.true_eq_false,if_false]
 ·simp only [z0j,z0k,z0o,eAa,eAb,eAc,g,h,ne_eq]
theorem v8k (l:List Cd) (x:Int):(atO l x).isSome=l.any fun d=>decide (d.n=x):=by
 rw [←z6l l default fun d=>decide (d.n=x)]
 unfold atO
 rw [eBu,List.find?_isSome,eBd]
theorem v4k (l:List Cd) (x:Int):atI l x<0↔(l.any fun d=>decide (d.n=x))=false:=by
 rw [←v8k]
 unfold atI
 cases atO l x with
 |none=>simp
 |some i=>simp
def y9d (a b:List Cd) (i:Nat):List Cd:=a++(b.take i).filter fun c=>!(a.any fun d=>decide (d.n=c.n))
theorem x3v (a b:List Cd) {i:Nat} {c:Cd} (h:b[i]?=some c):y9d a b (i+1)=if (a.any fun d=>decide (d.n=c.n))=true then y9d a b i else y9d a b i++[c]:=by
 unfold y9d
 rw [eGb,h,List.filter_append]
 cases e:a.any fun d=>decide (d.n=c.n) with
 |true=>simp [e]
 |false=>simp [e]
theorem x1j (a b:List Cd) (i:Nat):(y9d a b i).length≤a.length+b.length:=by
 unfold y9d
 rw [eCz]
 have f:=List.length_filter_le (fun c:Cd=>!(a.any fun d=>decide (d.n=c.n))) (b.take i)
 have e:(b.take i).length≤b.length:=by rw [eCk]; omega
 omega
theorem x1k (a b:List Cd):y9d a b b.length=z1j a b:=by
 unfold y9d z1j
 rw [eDf]
theorem v1r (a b:List Cd) (B:a.length≤1000) (A:b.length≤1000):
  z1a (w2c std) (z0a fl (y9d a b 0),(z0a fl a,(z0a fl b,(0,((y9d a b 0).length,((0:Int),()))))))=some (z0a fl (z1j a b),(0,((z1j a b).length,()))):=by
 have key:=z3c (b:=w2c std) b.length (fun (_:Unit) i=>(z0a fl (y9d a b i),(z0a fl a,(z0a fl b,(0,((y9d a b i).length,((i:Int),()))))))) (fun _ _=>True) (fun r=>r=(z0a fl (z1j a b),(0,((z1j a b).length,()))))
  (fun _ i z _=> .inl ⟨(),by
   obtain ⟨c,q⟩:=z0d z
   obtain ⟨u,w⟩:=stp i (by omega)
   have k:(i:Int)<b.length:=by omega
   have f:=y3q (fl:=fl) q
   have s:std.rdF (b.map (eC fl)) i 2 1=fl c.t:=u0f q
   have v:=x1j a b i
   have j:=x0p (fl:=fl) a c.n (by omega)
   have g:=v4k a c.n
   have e:(z0a fl b).length=b.length:=z0r _
   rw [x3v a b q]
   generalize y9d a b i=O at*
   have m:(O.map (eC fl)).length=O.length:=by simp
   simp only [z0a] at j
   cases l:a.any fun d=>decide (d.n=c.n) with
   |true=>
    have p:¬ atI a c.n<0:=fun h=>by rw [g.1 h] at l; cases l
    simp only [w2c,z0j,z0k,z0a,z0i,z02,z3j,z0o,eAa,eAb,eAc,k,w,u,f,j,p,e,if_true,if_false]
   |false=>
    have p:atI a c.n<0:=g.2 l
    have y:O.length+1≤1000000:=by omega
    have x:(O.map (eC fl)).take O.length=O.map (eC fl):=eBz (by simp)
    simp only [w2c,z0j,z0k,z0a,z0i,z02,z3j,z0o,eAa,eAb,eAc,k,w,u,f,j,p,e,s,y,x,m,eAp,eAy,eCo,if_true]
    simp [eC,z0i,x,y],trivial⟩)
  (fun _ _=>⟨(z0a fl (z1j a b),(0,((z1j a b).length,()))),by
   have o:¬ (b.length:Int)<b.length:=by omega
   have e:(z0a fl b).length=b.length:=z0r _
   rw [x1k]
   simp only [w2c,z0j,z0k,e,o,if_false,z0o,eAa,eAb,eAc],rfl⟩) () 0 (eBb _) trivial
 obtain ⟨r,C,rfl⟩:=key
 exact C
theorem v1q (a b:List Cd) (B:a.length≤1000) (A:b.length≤1000):
  z1a (w2b std) (z0a fl (y9d a b 0),(z0a fl a,(z0a fl b,(0,((y9d a b 0).length,((0:Int),()))))))=some (z0a fl (z1j a b),(0,((z1j a b).length,()))):=by
 have key:=z3c (b:=w2b std) b.length (fun (_:Unit) i=>(z0a fl (y9d a b i),(z0a fl a,(z0a fl b,(0,((y9d a b i).length,((i:Int),()))))))) (fun _ _=>True) (fun r=>r=(z0a fl (z1j a b),(0,((z1j a b).length,()))))
  (fun _ i z _=> .inl ⟨(),by
   obtain ⟨c,q⟩:=z0d z
   obtain ⟨u,w⟩:=stp i (by omega)
   have k:(i:Int)<b.length:=by omega
   have f:=y3q (fl:=fl) q
   have s:std.rdF (b.map (eC fl)) i 2 1=fl c.t:=u0f q
   have v:=x1j a b i
   have j:=x0p (fl:=fl) a c.n (by omega)
   have g:=v4k a c.n
   have e:(z0a fl b).length=b.length:=z0r _
   rw [x3v a b q]
   generalize y9d a b i=O at*
   have m:(O.map (eC fl)).length=O.length:=by simp
   simp only [z0a] at j
   cases l:a.any fun d=>decide (d.n=c.n) with
   |true=>
    have p:¬ atI a c.n<0:=fun h=>by rw [g.1 h] at l; cases l
    simp only [w2b,z0j,z0k,z0a,z0i,z02,z3j,z0o,eAa,eAb,eAc,k,w,u,f,j,p,e,if_true,if_false]
   |false=>
    have p:atI a c.n<0:=g.2 l
    have y:O.length+1≤1000000:=by omega
    have x:(O.map (eC fl)).take O.length=O.map (eC fl):=eBz (by simp)
    simp only [w2b,z0j,z0k,z0a,z0i,z02,z3j,z0o,eAa,eAb,eAc,k,w,u,f,j,p,e,s,y,x,m,eAp,eAy,eCo,if_true]
    simp [eC,z0i,x,y],trivial⟩)
  (fun _ _=>⟨(z0a fl (z1j a b),(0,((z1j a b).length,()))),by
   have o:¬ (b.length:Int)<b.length:=by omega
   have e:(z0a fl b).length=b.length:=z0r _
   rw [x1k]
   simp only [w2b,z0j,z0k,e,o,if_false,z0o,eAa,eAb,eAc],rfl⟩) () 0 (eBb _) trivial
 obtain ⟨r,C,rfl⟩:=key
 exact C
theorem w7p (a b:List Cd) (e:a.length≤1000) (d:b.length≤1000):v9l std (z0a fl a,(z0a fl b,()))=some (z0a fl (z1j a b),()):=by
 have f:=v1r (fl:=fl) a b e d
 have j:=v1q (fl:=fl) a b e d
 have n:(z1j a b).length≤2000:=by have:=x1j a b b.length; rw [x1k] at this; omega
 have q:y9d a b 0=a:=by unfold y9d; simp
 rw [q] at f j
 have i:(z0a fl (z1j a b)).length=(z1j a b).length:=z0r _
 have l:(z0a fl a).length=a.length:=z0r _
 have k:(z0a fl (z1j a b)).take (z1j a b).length=z0a fl (z1j a b):=eBz (by omega)
 unfold v9l
 by_cases m:a.length=0
 ·have h:a=[]:=eBw.1 m
  subst h
  have c:z0a fl ([]:List Cd)=[]:=rfl
  rw [c] at f
  simp only [eDw] at f
  simp only [z0j,z0k,z0o,eAa,eAb,eAc,c,eDw,eAp,eBk,eAy,eGg,List.nil_append,eDx,f,i,k,eCo,if_true,eCc]
 ·have g:¬ a.length≤0:=by omega
  have p:1≤a.length:=by omega
  have o:a.length≤1000000:=by omega
  simp only [z0j,z0k,z0o,eAa,eAb,eAc,l,g,p,o,eAy,eAp,eDw,List.take_nil,List.drop_nil,List.nil_append,j,i,k,eCo,if_true,if_false,eCc]
theorem v4o (l:List Cd) {B:Cd→Cd→Bool} (o:l.length≤1000):G96 std (z2y (z3w l B),())=some ((l.any fun c=>B c c),()):=by
 have a:(z2y (z3w l B)).length=l.length:=by simp [z2y,z3w]
 have key:=z11 (b:=w2a std) l.length (fun i=>(z2y (z3w l B),((i:Int),()))) (fun i=>B (l.getD i default) (l.getD i default)) (.inl (true,())) (.inr ())
  (fun i n=>by
   obtain ⟨c,f⟩:=z0d n
   obtain ⟨h,m⟩:=stp i (by omega)
   have e:(i:Int)<(l.length:Int):=by omega
   have d:=w87 (B:=B) f
   rw [z0p f]
   cases k:B c c with
   |true=>simp only [w2a,z0j,z0k,z0a,z0i,z02,z3j,z1z,z3e,z9u,z7f,y7m,z6i,z0o,eAa,eAb,eAc,e,m,h,a,d,f,k,if_true]
   |false=>simp only [w2a,z0j,z0k,z0a,z0i,z02,z3j,z1z,z3e,z9u,z7f,y7m,z6i,z0o,eAa,eAb,eAc,e,m,h,a,d,f,k,if_false,eAh]) (by
  have g:¬ (l.length:Int)<(l.length:Int):=by omega
  simp only [w2a,z0j,z0k,z0o,eAa,eAb,eAc,a,g,if_false])
 have key:z1a (w2a std) (z2y (z3w l B),((0:Int),()))=_:=key
 rw [z6l l default fun c=>B c c] at key
 unfold G96
 cases j:l.any fun c=>B c c with
 |true=>
  rw [j] at key
  simp only [if_true] at key
  simp only [z0j,z0k,z0o,eAa,eAb,eAc,key]
 |false=>
  rw [j] at key
  simp only [if_false,eAh] at key
  simp only [z0j,z0k,z0o,eAa,eAb,eAc,key]
theorem v17 (l:List Cd) {B:Cd→Cd→Bool} (G:l.length≤1000) (C:∀ c∈l,c.t.length≤1000000) (i:Nat) {c:Cd} (r:l[i]?=some c):
  z1a (x2h std) (z0a fl l,(z2y (z3w l B),((i:Int),((0:Int),()))))=
   some (if (l.take i).any (Unk B c)=true then .inl (16,()) else .inr (z0a fl l,(z2y (z3w l B),((i:Int),())))):=by
 have F:i<l.length:=(eAe.1 r).1
 have s:(z2y (z3w l B)).length=l.length:=by simp [z2y,z3w]
 have key:=z11 (b:=x2h std) i (fun k=>(z0a fl l,(z2y (z3w l B),((i:Int),((k:Int),()))))) (fun k=>Unk B c (l.getD k default)) (.inl (16,())) (.inr (z0a fl l,(z2y (z3w l B),((i:Int),()))))
  (fun k w=>by
   obtain ⟨d,u⟩:=z0d (show k<l.length by omega)
   obtain ⟨y,z⟩:=stp k (by omega)
   have j:(k:Int)<(i:Int):=by omega
   have m:(0:Int)≤(i:Int):=by omega
   have p:(k:Int)<(l.length:Int):=by omega
   have q:(i:Int)<(l.length:Int):=by omega
   have g:=y3q (fl:=fl) u
   have a:=y3q (fl:=fl) r
   have f:=w7v c d (C c (eAn r)) (C d (eAn u))
   have o:=w87 (B:=B) r
   have n:=w87 (B:=B) u
   rw [z0p u]
   unfold Unk
   simp only [z0i] at f
   cases E:tch c d with
   |false=>
    rw [E] at f
    simp only [x2h,z0j,z0k,z0a,z0i,z02,z3j,z0o,eAa,eAb,eAc,j,z,m,y,g,a,f,eDn,if_false,eAh]
   |true=>
    rw [E] at f
    cases v:B c d with
    |true=>
     simp only [x2h,z0j,z0k,z0a,z0i,z02,z3j,z1z,z3e,z9u,z7f,y7m,z6i,z0o,eAa,eAb,eAc,j,z,m,p,q,y,g,a,f,o,n,r,u,s,v,eCp,eGq,eDn,if_false,if_true,eAh]
    |false=>
     cases x:B d c with
     |true=>
      simp only [x2h,z0j,z0k,z0a,z0i,z02,z3j,z1z,z3e,z9u,z7f,y7m,z6i,z0o,eAa,eAb,eAc,j,z,m,p,q,y,g,a,f,o,n,r,u,s,v,x,eCp,eCn,eGq,eDn,if_false,if_true,eAh]
     |false=>
      simp only [x2h,z0j,z0k,z0a,z0i,z02,z3j,z1z,z3e,z9u,z7f,y7m,z6i,z0o,eAa,eAb,eAc,j,z,m,p,q,y,g,a,f,o,n,r,u,s,v,x,eCp,eCn,eCc,if_false,if_true,eAh]) (by
  have A:¬ (i:Int)<(i:Int):=by omega
  simp only [x2h,z0j,z0k,z0o,eAa,eAb,eAc,A,if_false])
 have key:z1a (x2h std) (z0a fl l,(z2y (z3w l B),((i:Int),((0:Int),()))))=_:=key
 rw [key]
 congr 1
 have e:((eAv i).any fun k=>Unk B c (l.getD k default))=(l.take i).any (Unk B c):=by
  rw [←z6l (l.take i) default (Unk B c),eCk,Nat.min_eq_left (by omega)]
  rw [eBu,eBd,eBd]
  have:∀ k,k<i→(l.take i).getD k default=l.getD k default:=fun k w=>by
   rw [eAr,eAr,eFl,if_pos w]
  constructor<;>rintro ⟨k,w,h⟩<;>refine ⟨k,w,?_⟩
  ·rw [this k (eBj.1 w)]; exact h
  ·rw [←this k (eBj.1 w)]; exact h
 rw [e]
theorem v18 (l:List Cd) {B:Cd→Cd→Bool} (n:l.length≤1000) (m:∀ c∈l,c.t.length≤1000000):
  z1a (w2i std) (z0a fl l,(z2y (z3w l B),((0:Int),())))=
   some (if ((eAv l.length).any fun i=>(l.take i).any (Unk B (l.getD i default)))=true then .inl (16,()) else .inr (z0a fl l,(z2y (z3w l B),()))):=by
 have a:(z0a fl l).length=l.length:=z0r _
 have key:=z11 (b:=w2i std) l.length (fun i=>(z0a fl l,(z2y (z3w l B),((i:Int),())))) (fun i=>(l.take i).any (Unk B (l.getD i default))) (.inl (16,())) (.inr (z0a fl l,(z2y (z3w l B),())))
  (fun i o=>by
   obtain ⟨c,j⟩:=z0d o
   obtain ⟨g,k⟩:=stp i (by omega)
   have d:(i:Int)<(l.length:Int):=by omega
   have e:=v17 (fl:=fl) (B:=B) l n m i j
   rw [z0p j]
   cases h:(l.take i).any (Unk B c) with
   |true=>
    rw [h] at e
    simp only [w2i,z0j,z0k,z0o,eAa,eAb,eAc,d,k,g,a,e,if_true]
   |false=>
    rw [h] at e
    simp only [w2i,z0j,z0k,z0o,eAa,eAb,eAc,d,k,g,a,e,eAh,if_false]) (by
  have f:¬ (l.length:Int)<(l.length:Int):=by omega
  simp only [w2i,z0j,z0k,z0o,eAa,eAb,eAc,a,f,if_false])
 exact key
theorem x5c (c:Cd) (es:List (List D)) (l:List Cd) (h:z6f es=some l):z6f (eC fl c::es)=some (c::l):=by
 have b:y6q (z0i c.t)=some c.t:=y9f c.t
 show (match y6q (z0i c.t),z6f es with|some t,some r=>some ((⟨c.n,c.k,t,c.a⟩:Cd)::r)|_,_=>none)=_
 rw [b,h]
theorem x7j (l:List Cd):z6f (z0a fl l)=some l:=by
 induction l with
 |nil=>rfl
 |cons c l a=>exact x5c c _ l a
theorem v4p (a b:List Cd) (h:z1y a b=0) (j:Few a) (i:Few b):G95 std (z0a fl (z1j a b),(z0a fl a,(z0a fl b,())))=some (z2y (z3w (z1j a b) (kn a b)),()):=by
 obtain ⟨l,k,e,f,p,hm,o⟩:=z4k h
 obtain ⟨x,w,n,v,u⟩:=z03 l
 obtain ⟨t,s,m,r,q⟩:=z03 k
 have g:t5t (z1j a b) a b:=⟨by omega,f,fun c d=>(y2s e).2 (.inl d),fun c d=>(y2s e).2 (.inr d),j,i,by omega,by omega,n,m⟩
 unfold G95
 simp only [x7j]
 rw [if_pos g]
 rfl
theorem u6t (a b:List Cd) (w:Few a) (v:Few b):G47 std (z0a fl a,(z0a fl b,()))=some (z0a fl (z2m a b),(y3w a b,())):=by
 have j:=w7q (fl:=fl) (fl':=fl) a b w v
 unfold G47 z2m y3w
 by_cases h:z1y a b=0
 ·obtain ⟨C,A,t,s,E,hm,z⟩:=z4k h
  obtain ⟨O,N,M,L,K⟩:=z03 C
  obtain ⟨J,I,H,G,F⟩:=z03 A
  have n:=w7p (fl:=fl) a b (by omega) (by omega)
  have o:=v4p (fl:=fl) a b h w v
  have k:=v4o (B:=kn a b) (z1j a b) (by omega)
  have l:(z0a fl (z1j a b)).length=(z1j a b).length:=z0r _
  by_cases m:60<(z1j a b).length
  ·have d:(60:Int)<((z1j a b).length:Int):=by omega
   simp only [z0j,z0k,z0o,eAa,eAb,eAc,j,h,n,l,m,d,ne_eq]
   rfl
  ·have d:¬ (60:Int)<((z1j a b).length:Int):=by omega
   by_cases f:circ a b
   ·have p:((z1j a b).any fun c=>kn a b c c)=true:=eBd.2 f
    rw [p] at k
    simp only [z0j,z0k,z0o,eAa,eAb,eAc,j,h,n,o,k,l,m,d,f,ne_eq]
    rfl
   ·have p:((z1j a b).any fun c=>kn a b c c)=false:=by
     rw [eGc]
     exact fun e=>f (eBd.1 e)
    rw [p] at k
    have g:=v18 (fl:=fl) (B:=kn a b) (z1j a b) (by omega) (fun c t=>by have:=(z c t).2; omega)
    by_cases r:v9b a b
    ·rw [(x0r s).2 r] at g
     simp only [if_true] at g
     simp only [z0j,z0k,z0o,eAa,eAb,eAc,j,h,n,o,k,l,m,d,f,g,r,ne_eq]
     rfl
    ·have:((eAv (z1j a b).length).any fun i=>((z1j a b).take i).any (Unk (kn a b) ((z1j a b).getD i default)))=false:=by
      rw [eGc]
      exact fun e=>r ((x0r s).1 e)
     rw [this] at g
     simp only [eAh,if_false] at g
     have q:∀ x∈z1j a b,kn a b x x=false:=fun x y=>by
      cases p:kn a b x x with
      |false=>rfl
      |true=>exact absurd ⟨x,y,p⟩ f
     have u:=u6n (fl:=fl) (z1j a b) (by omega) s (y97 (x83 t) q)
     simp only [z0j,z0k,z0o,eAa,eAb,eAc,j,h,n,o,k,l,m,d,f,g,r,u,ne_eq]
 ·simp only [z0j,z0k,z0o,eAa,eAb,eAc,j,h,ne_eq]
  rfl
def circSt (a b:List Cd):Int:=if z1y a b≠0 then z1y a b else if circ a b then 0 else 5
theorem u6r (a b:List Cd) (m:Few a) (l:Few b):G49 std (z0a fl a,(z0a fl b,()))=some (circSt a b,()):=by
 have g:=w7q (fl:=fl) (fl':=fl) a b m l
 unfold G49 circSt
 by_cases h:z1y a b=0
 ·obtain ⟨o,n,s,q,r,hm,p⟩:=z4k h
  obtain ⟨E,C,A,z,y⟩:=z03 o
  obtain ⟨x,w,v,u,t⟩:=z03 n
  have j:=w7p (fl:=fl) a b (by omega) (by omega)
  have i:=v4p (fl:=fl) a b h m l
  have f:=v4o (B:=kn a b) (z1j a b) (by omega)
  by_cases d:circ a b
  ·have k:((z1j a b).any fun c=>kn a b c c)=true:=eBd.2 d
   rw [k] at f
   simp only [z0j,z0k,z0o,eAa,eAb,eAc,g,h,j,i,f,d,ne_eq]
  ·have k:((z1j a b).any fun c=>kn a b c c)=false:=by
    rw [eGc]
    exact fun e=>d (eBd.1 e)
   rw [k] at f
   simp only [z0j,z0k,z0o,eAa,eAb,eAc,g,h,j,i,f,d,ne_eq]
 ·simp only [z0j,z0k,z0o,eAa,eAb,eAc,g,h,ne_eq]
theorem w0f {l:List Cd} {c:Cd} (d:(l.map (·.n)).Nodup) {i:Nat} (h:l[i]?=some c):atO l c.n=some i:=by
 have a:=y5l d h
 unfold atI at a
 cases b:atO l c.n with
 |none=>rw [b] at a; simp only at a; omega
 |some j=>
  rw [b] at a
  simp only at a
  have:j=i:=by omega
  rw [this]
theorem x1v {l:List Cd} {x:Cd} (a:x∈l):l[l.idxOf x]?=some x:=by
 have:=eDc a
 rw [eAd this,eGk]
theorem x25 {l:List Cd} (c:(l.map (·.n)).Nodup) {x y:Cd} (b:x∈l) (a:y∈l):y4y l x.n y.n=ord l x y:=by
 unfold y4y
 rw [w0f c (x1v b),w0f c (x1v a)]
 simp only [z0p (x1v b),z0p (x1v a)]
 unfold ord
 rw [Bool.and_comm]
theorem x56 {a b:List Cd} (g:(a.map (·.n)).Nodup) (f:(b.map (·.n)).Nodup) {x y:Cd} (h:y0h a b x y=true):x28 a b x.n y.n=true:=by
 unfold x28
 rcases z8u.1 h with ⟨e,d,c⟩|⟨e,d,c⟩
 ·rw [x25 g e d,c]; rfl
 ·rw [x25 f e d,c,Bool.or_true]
theorem w6h {B:Cd→Cd→Bool}:∀ {l:List Cd},Chn B l→∀ (i:Nat) (x y:Cd),l[i]?=some x→l[i+1]?=some y→B x y=true
 |[],_,i,x,y,h,_=>by simp at h
 |[_],_,i,x,y,_,h=>by simp at h
 |u::v::l,c,0,x,y,b,a=>by
  simp only [eDy,Option.some.injEq] at b
  simp only [eDl,eDy,Option.some.injEq] at a
  rw [←b, ←a]; exact c.1
 |u::v::l,c,i+1,x,y,b,a=>w6h (l:=v::l) c.2 i x y (by simpa using b) (by simpa using a)
theorem v1e {a b:List Cd} (h:z1y a b=0) {cs:List Cd} (u:3≤cs.length) (t:cs.length≤4096) (d:∀ (i:Nat) (x y:Cd),cs[i]?=some x→cs[i+1]?=some y→y0h a b x y=true) (k:cs[cs.length - 1]?=cs[0]?):v8d a b (cs.map (·.n))=0:=by
 obtain ⟨s,r,_⟩:=z4k h
 have m:=(z03 s).2.1
 have l:=(z03 r).2.1
 unfold v8d
 rw [if_neg (by simpa using h),eBp,if_neg (by omega)]
 have o:v8s a b (cs.map (·.n))=true:=by
  unfold v8s
  rw [eBm]
  intro i g
  rw [eBp] at g
  have g:=eBj.1 g
  obtain ⟨x,c⟩:=z0d (show i<cs.length by omega)
  obtain ⟨y,j⟩:=z0d (show i+1<cs.length by omega)
  have f:(cs.map (·.n))[i]?=some x.n:=by rw [eAj,c]; rfl
  have e:(cs.map (·.n))[i+1]?=some y.n:=by rw [eAj,j]; rfl
  rw [z0p f,z0p e]
  exact x56 m l (d i x y c j)
 rw [o,if_neg (by simp)]
 obtain ⟨x,c⟩:=z0d (show 0<cs.length by omega)
 have q:(cs.map (·.n))[0]?=some x.n:=by rw [eAj,c]; rfl
 have p:(cs.map (·.n))[cs.length - 1]?=some x.n:=by rw [eAj,k,c]; rfl
 rw [z0p q,z0p p,if_pos rfl]
theorem v1d {a b cs:List Cd} (h:z1y a b=0) (o:v9a a b cs):v8d a b (cs.map (·.n))=0:=by
 obtain ⟨c,d,rfl,f,m,j,g⟩:=o
 have hm:0<d.length:=List.length_pos_iff.2 f
 refine v1e h (by simp; omega) (by simp; omega) (fun i x y l k=>z7u (w6h g i x y l k)) ?_
 have e:(c::(d++[c])).length - 1=d.length+1:=by simp
 rw [e,eDl,eFt (eAp _),Nat.sub_self]
 rfl
theorem v29 (B:Cd→Cd→Bool):∀ (n:Nat) (l:List Cd),(lst B n l).length≤n
 |0,l=>by simp [lst]
 |n+1,l=>by
  unfold lst
  cases x2f B l with
  |none=>simp
  |some c=>simp only [eCa]; have:=v29 B n (rm c l); omega
theorem u6z (a b:List Cd) (c:List Int):G12 std (z0a fl a,(z0a fl b,(z0i c,())))=some (true,()):=by
 have u:=v4w (fl:=fl) a
 have w:=v4w (fl:=fl) b
 have k:(z0i c).length=c.length:=z0w c
 unfold G12
 by_cases V:x4f a=true
 ·rw [V] at u
  simp only [z0j,z0k,z0o,eAa,eAb,eAc,u,G16,if_true]
 ·have L:x4f a=false:=by simpa using V
  rw [L] at u
  by_cases U:x4f b=true
  ·rw [U] at w
   simp only [z0j,z0k,z0o,eAa,eAb,eAc,u,w,G16,if_true,if_false,eAh]
  ·have K:x4f b=false:=by simpa using U
   rw [K] at w
   obtain ⟨j,a0,Y⟩:=y4m L
   obtain ⟨i,Z,X⟩:=y4m K
   by_cases h3:4110<c.length
   ·have o:(100:Int)<(c.length:Int):=by omega
    have z:¬ (c.length:Int)≤4096:=by omega
    have y:(4110:Int)<(c.length:Int):=by omega
    simp only [z0j,z0k,z0o,eAa,eAb,eAc,u,w,k,o,z,y,G16,if_true,if_false,eAh]
   ·have y:¬ (4110:Int)<(c.length:Int):=by omega
    by_cases h4:100<c.length∧c.length≤4096
    ·have o:(100:Int)<(c.length:Int):=by omega
     have z:(c.length:Int)≤4096:=by omega
     simp only [z0j,z0k,z0o,eAa,eAb,eAc,u,w,k,o,z,y,G16,if_true,if_false,eAh]
    ·have s:=u6u (fl:=fl) a b j i
     have r:=u6t (fl:=fl) a b j i
     have f:=u6s (fl:=fl) a b j i
     have g:=u6r (fl:=fl) a b j i
     have q:=u6q (fl:=fl) (fl':=fl) a b c j i (by omega) (by omega) (by omega)
     have p:=v4v (fl:=fl) (fl':=fl) a b c j i (by omega) (by omega) (by omega)
     have O:(z2m a b).length≤1000000:=by
      unfold z2m
      split
      ·rename_i P
       have l:z1y a b=0:=by
        unfold y3w at P
        by_cases e:z1y a b=0
        ·exact e
        ·rw [if_pos e] at P; exact absurd P e
       obtain ⟨_,_,_,_,hl,_,_⟩:=z4k l
       have:=v29 (kn a b) (z1j a b).length (z1j a b)
       omega
      ·simp
     have N:∀ d∈z2m a b,d.t.length≤1000000:=by
      intro d M
      unfold z2m at M
      split at M
      ·have I:=v6d (kn a b) (z1j a b).length (z1j a b) d M
       unfold z1j at I
       rcases eBx.1 I with h|h
       ·exact j d h
       ·exact i d (eDb.1 h).1
      ·cases M
     have m:=u6v (fl:=fun _=>false) (fl':=fl) (z2m a b) (z2m a b) O N
     simp only [decide_true] at m
     have E:(z0a (fun _=>false) (z2m a b)).length=(z2m a b).length:=z0r _
     have C:(z0a fl (z2m a b)).length=(z2m a b).length:=z0r _
     have G:(z0a (fun _=>false) (z2m a b)).take (z2m a b).length=z0a (fun _=>false) (z2m a b):=eBz (by omega)
     have F:(z0a fl (z2m a b)).take (z2m a b).length=z0a fl (z2m a b):=eBz (by omega)
     generalize z0a (fun _=>false) (z2m a b)=A1 at*
     generalize z0a fl (z2m a b)=A2 at*
     have B:((100:Int)<(c.length:Int)∧¬ (c.length:Int)≤4096)∨¬ (100:Int)<(c.length:Int):=by omega
     rcases f with ⟨l,f⟩|⟨l,A,f⟩|⟨l,A,cs,f,T⟩
     ·have v:circSt a b=z1y a b:=if_pos l
      rw [v] at g
      have H:((0:Nat):Int)=0:=rfl
      rcases B with ⟨o,z⟩|o
      ·simp only [z0j,z0k,z0o,eAa,eAb,eAc,u,w,k,o,z,y,s,r,f,g,q,p,m,E,C,G,F,l,H,G16,eAy,eAp,eCo,eCc,ne_eq,not_true,not_false_eq_true,if_true,if_false,eAh]
      ·simp only [z0j,z0k,z0o,eAa,eAb,eAc,u,w,k,o,y,s,r,f,g,q,p,m,E,C,G,F,l,H,G16,eAy,eAp,eCo,eCc,ne_eq,not_true,not_false_eq_true,if_true,if_false,eAh]
     ·have v:circSt a b=5:=by unfold circSt; rw [if_neg (by omega),if_neg A]
      rw [v] at g
      have H:((0:Nat):Int)=0:=rfl
      rcases B with ⟨o,z⟩|o
      ·simp only [z0j,z0k,z0o,eAa,eAb,eAc,u,w,k,o,z,y,s,r,f,g,q,p,m,E,C,G,F,H,G16,eAy,eAp,eCo,eCc,ne_eq,not_true,not_false_eq_true,if_true,if_false,eAh]
      ·simp only [z0j,z0k,z0o,eAa,eAb,eAc,u,w,k,o,y,s,r,f,g,q,p,m,E,C,G,F,H,G16,eAy,eAp,eCo,eCc,ne_eq,not_true,not_false_eq_true,if_true,if_false,eAh]
     ·have v:circSt a b=0:=by unfold circSt; rw [if_neg (by omega),if_pos A]
      rw [v] at g
      have J:=v1d l T
      have S:cs.length≤1000:=by
       obtain ⟨d,W,rfl,_,hm,_⟩:=T
       simp; omega
      have x:=v4v (fl:=fl) (fl':=fl) a b (cs.map (·.n)) j i (by omega) (by omega) (by simp; omega)
      rw [J] at x
      have Q:(z0i (cs.map (·.n))).length=cs.length:=by rw [z0w,eBp]
      have R:(z0i (cs.map (·.n))).take cs.length=z0i (cs.map (·.n)):=eBz (by omega)
      generalize z0i (cs.map (·.n))=A3 at*
      rcases B with ⟨o,z⟩|o
      ·simp only [z0j,z0k,z0o,eAa,eAb,eAc,u,w,k,o,z,y,s,r,f,g,q,p,x,m,E,C,Q,G,F,R,G16,eAy,eAp,eCo,eCc,ne_eq,not_true,not_false_eq_true,if_true,if_false,eAh]
      ·simp only [z0j,z0k,z0o,eAa,eAb,eAc,u,w,k,o,y,s,r,f,g,q,p,x,m,E,C,Q,G,F,R,G16,eAy,eAp,eCo,eCc,ne_eq,not_true,not_false_eq_true,if_true,if_false,eAh]
end Go.Am
end
section
namespace Go.Am
open Go Go.RowKit Go.Proofs
theorem y5b {P:Program} {w:World}:∀ {l:List (String×DataW Unit)} {b:List MemPlace},DataW.LaidVars P w l b→∀ x∈l,∃ g t cs fuel p,P.globalNamed x.1=some g∧(P.globals[g]?).map (·.type)=some t∧w.var? P x.1=some cs∧
  DataW.trod (fun _=>()) P w 0 (fun _=>true) false fuel t cs.toList=some (x.2,p)
 |[],_,_,x,a=>by cases a
 |(n,d)::r,b,h,x,a=>by
  obtain ⟨g,t,cs,fuel,p,q,j,i,f,e,c,_⟩:=h
  rcases eBa.1 a with rfl|a
  ·exact ⟨g,t,cs,fuel,p,j,i,f,e⟩
  ·exact y5b c x a
theorem y5r {P:Program} {w:World} {n:String} {g:Nat} {cs:Array Value} (hg:P.globalNamed n=some g) (h:w.var? P n=some cs):z1c w g=some cs.size:=by
 unfold World.var? at h
 rw [hg] at h
 simp only [eCb] at h
 unfold z1c
 split at h<;>simp_all
theorem v9s {P:Program} {w:World} {n:String} {g:Nat} {cs:Array Value} (hg:P.globalNamed n=some g) (h:w.var? P n=some cs):g<w.heap.size:=z7x (y5r hg h)
theorem u2h {α:Type} (f:Int→α):∀ (l:List (Int×Int)) (j:Nat),(l.flatMap fun q=>[f q.1,f q.2])[j]?=(l[j / 2]?).map fun q=>if j % 2=0 then f q.1 else f q.2
 |[],j=>by simp
 |q::l,0=>by simp
 |q::l,1=>by simp
 |q::l,j+2=>by
  have b:(j+2) / 2=j / 2+1:=by omega
  have a:(j+2) % 2=j % 2:=by omega
  rw [b,a,List.flatMap_cons]
  show (f q.1::f q.2::l.flatMap fun q=>[f q.1,f q.2])[j+2]?=_
  simpa using u2h f l j
def unp:DataW Unit→List Int
 | .agg l=>l.map fun| .lit (.int _ z)=>z|_=>0
 |_=>[]
def v43:DataW Unit→List (Int×Int)
 | .agg l=>l.map fun| .agg [.lit (.int _ a), .lit (.int _ b)]=>(a,b)|_=>(0,0)
 |_=>[]
def x1h (k:IntKind) (l:List (Int×Int)):DataW Unit:= .agg (l.map fun q=> .agg [.lit (.int k q.1), .lit (.int k q.2)])
theorem y8m {P:Program} {w:World} {base:Nat} {sp:Nat→Bool} {held:Bool} {fuel:Nat} {t e u:TypeId} {n:Nat} {k:IntKind} {fs:Array Field} {cs:List Value} {l:List (Int×Int)} {p:List MemPlace} {enc:TypeId×Value→Unit}
  (ht:P.underlying t=some (.array n e)) (he:P.underlying e=some (.struct fs)) (hu:P.underlying u=some (.int k)) (M:P.cellsOf e=2) (K:P.cellsOf u=1) (L:P.cellsOf t=n*2)
  (Q:(fs.toList.map fun f=>(f.type,f.offset))=[(u,0),(u,1)])
  (h:DataW.trod enc P w base sp held fuel t cs=some (x1h k l,p)):cs=l.flatMap fun q=>[Value.int k q.1,Value.int k q.2]:=by
 obtain ⟨E,m,rfl,Z,hl,Y,hi⟩:=DataW.trod_array ht h
 have r:E.map (·.1)=l.map fun q=>(DataW.agg [.lit (.int k q.1), .lit (.int k q.2)]:DataW Unit):=by
  have:=congrArg Prod.fst Z
  simpa [x1h] using this.symm
 have a0:l.length=n:=by
  have:=congrArg List.length r
  simp at this; omega
 have a2:fs.size=2:=by
  have:=congrArg List.length Q
  simpa using this
 apply eCj
 intro j
 rw [u2h]
 by_cases hj:j / 2<n
 ·obtain ⟨q,O⟩:∃ q,l[j / 2]?=some q:=⟨l[j / 2]'(by omega),eAd (by omega)⟩
  have T:=hi (j / 2) hj
  have A:(E.map (·.1))[j / 2]?=some (.agg [.lit (.int k q.1), .lit (.int k q.2)]):=by rw [r,eAj,O]; rfl
  rw [eAj] at A
  cases R:E[j / 2]? with
  |none=>rw [R] at A; cases A
  |some b=>
  rw [R] at T A
  obtain ⟨C,m',rfl,X,W,V,hg⟩:=DataW.trod_struct he T
  have G:C.map (·.1)=[.lit (.int k q.1), .lit (.int k q.2)]:=by
   have U:=congrArg Prod.fst X
   have e2:b.1= .agg [.lit (.int k q.1), .lit (.int k q.2)]:=Option.some.inj A
   rw [e2] at U
   simpa using U.symm
  have B:∀ (i:Nat) (z:Int),i<2→([q.1,q.2]:List Int)[i]?=some z→cs[j / 2*2+i]?=some (.int k z):=by
   intro i z c g
   have a:(fs.toList.map fun f=>(f.type,f.offset))[i]?=some (u,i):=by
    rw [Q]
    match i,c with
    |0,_=>rfl
    |1,_=>rfl
   rw [eAj] at a
   cases d:fs.toList[i]? with
   |none=>rw [d] at a; cases a
   |some f=>
   rw [d] at a
   have v:=Option.some.inj a
   have H:f.type=u:=congrArg Prod.fst v
   have I:f.offset=i:=congrArg Prod.snd v
   have N:=hg i f (by simpa using d)
   rw [H,I] at N
   have x:(C.map (·.1))[i]?=some (.lit (.int k z)):=by
    rw [G]
    match i,c,g with
    |0,_,g=>cases g; rfl
    |1,_,g=>cases g; rfl
   rw [eAj] at x
   cases o:C[i]? with
   |none=>rw [o] at x; cases x
   |some y=>
   rw [o] at N x
   obtain ⟨z',hc,F,_⟩:=DataW.trod_int hu N
   have:y.1= .lit (.int k z):=Option.some.inj x
   rw [F] at this
   simp only [DataW.lit.injEq,Lit.int.injEq,true_and] at this
   subst this
   have S:=congrArg (·[0]?) hc
   simp only [K,M,eFl,eDh,eDy] at S
   simpa [eCf,show i<2 from c] using S
  rw [O]
  simp only [eBo]
  have a1:j=j / 2*2+j % 2:=by omega
  have hm:j % 2<2:=eGh _ (by omega)
  by_cases s:j % 2=0
  ·rw [if_pos s]
   have:=B 0 q.1 (by omega) rfl
   rw [show j=j / 2*2+0 by omega]
   simpa using this
  ·rw [if_neg s]
   have:=B 1 q.2 (by omega) rfl
   rw [show j=j / 2*2+1 by omega]
   have e:(j / 2*2+1) / 2=j / 2:=by omega
   simpa [e] using this
 ·have J:l[j / 2]?=none:=eDv (by omega)
  rw [J,eDv (by rw [hl,L]; omega)]
  rfl
theorem x5v {W:World} {n:String} {d:DataW Unit} {l:List (String×DataW Unit)} {u:List MemPlace} (A:DataW.LaidVars Tryz.prog W l u) {i:Nat} (v:l[i]?=some (n,d)) {g t e m:Nat} {k:IntKind}
  (hg:Tryz.prog.globalNamed n=some g) (a:(Tryz.prog.globals[g]?).map (·.type)=some t) (w:Tryz.prog.underlying t=some (.array m e)) (he:Tryz.prog.underlying e=some (.int k)) (f:Tryz.prog.cellsOf e=1) (c:Tryz.prog.cellsOf t=m)
  (y:d=Lib.tabData k (unp d)):g<W.heap.size∧z1c W g=some (unp d).length∧∀ (j:Nat) (z:Int),(unp d)[j]?=some z→W.cell? ⟨g,j,none⟩=some (.int k z):=by
 obtain ⟨F,E,cs,s,p,C,B,r,h⟩:=y5b A (n,d) (eAn v)
 obtain rfl:=Option.some.inj (hg.symm.trans C)
 obtain rfl:=Option.some.inj (a.symm.trans B)
 simp only at h
 rw [y] at h
 have o:=Lib.cells_of_tab w he f c h
 have q:=y5r hg r
 have b:cs.size=(unp d).length:=by
  have:=congrArg List.length o
  simpa using this
 refine ⟨z7x q,by rw [q,b],fun j z x=>?_⟩
 rw [World.var?_cell hg r j]
 have:=congrArg (·[j]?) o
 simp only [eAj,x,eBo] at this
 simpa using this
theorem w9d {W:World} {n:String} {d:DataW Unit} {l:List (String×DataW Unit)} {y:List MemPlace} (H:DataW.LaidVars Tryz.prog W l y) {i:Nat} (A:l[i]?=some (n,d)) {g t e u m:Nat} {k:IntKind} {fs:Array Field}
  (hg:Tryz.prog.globalNamed n=some g) (a:(Tryz.prog.globals[g]?).map (·.type)=some t) (C:Tryz.prog.underlying t=some (.array m e)) (he:Tryz.prog.underlying e=some (.struct fs)) (B:Tryz.prog.underlying u=some (.int k))
  (o:Tryz.prog.cellsOf e=2) (c:Tryz.prog.cellsOf u=1) (h:Tryz.prog.cellsOf t=m*2) (F:(fs.toList.map fun f=>(f.type,f.offset))=[(u,0),(u,1)])
  (G:d=x1h k (v43 d)):g<W.heap.size∧z1c W g=some ((v43 d).flatMap fun q=>[q.1,q.2]).length∧∀ (j:Nat) (z:Int),((v43 d).flatMap fun q=>[q.1,q.2])[j]?=some z→W.cell? ⟨g,j,none⟩=some (.int k z):=by
 obtain ⟨L,K,cs,x,p,J,I,w,s⟩:=y5b H (n,d) (eAn A)
 obtain rfl:=Option.some.inj (hg.symm.trans J)
 obtain rfl:=Option.some.inj (a.symm.trans I)
 simp only at s
 rw [G] at s
 have r:=y8m C he B o c h F s
 have hm:((v43 d).flatMap fun q=>[Value.int k q.1,Value.int k q.2])=((v43 d).flatMap fun q=>[q.1,q.2]).map (Value.int k):=by
  rw [List.map_flatMap]; rfl
 rw [hm] at r
 have v:=y5r hg w
 have b:cs.size=((v43 d).flatMap fun q=>[q.1,q.2]).length:=by
  have:=congrArg List.length r
  simpa using this
 refine ⟨z7x v,by rw [v,b],fun j z E=>?_⟩
 rw [World.var?_cell hg w j]
 have:=congrArg (·[j]?) r
 simp only [eAj,E,eBo] at this
 simpa using this
theorem w5c {W:World} {n c:String} {d:DataW Unit} {l:List (String×DataW Unit)} {h:List MemPlace} (o:DataW.LaidVars Tryz.prog W l h) {i:Nat} (j:l[i]?=some (n, .iface c d)) {g t:Nat} {ms:Array (String×TypeId)}
  (hg:Tryz.prog.globalNamed n=some g) (a:(Tryz.prog.globals[g]?).map (·.type)=some t) (k:Tryz.prog.underlying t=some (.interface ms)):g<W.heap.size∧∃ u v,W.cell? ⟨g,0,none⟩=some (.iface u v):=by
 obtain ⟨x,w,cs,f,p,s,r,e,q⟩:=y5b o (n, .iface c d) (eAn j)
 obtain rfl:=Option.some.inj (hg.symm.trans s)
 obtain rfl:=Option.some.inj (a.symm.trans r)
 obtain ⟨b,u,v,m,_⟩:=iface_of_trod k q
 refine ⟨v9s hg e,u,v,?_⟩
 rw [World.var?_cell hg e 0]
 have:=congrArg (·[0]?) m
 simpa using this
open YtejcgpekgbiooaaGreatDoor in
abbrev w4x:List (String×DataW Unit):=Rows.docketCardsRow.laid
theorem x8t:(w4x.filter fun x=>x.2.handleName?.isSome)=[]:=by kernel_rfl
theorem w9u {w:World} (h:laidMet Tryz.prog w4x w):laidMetH Tryz.prog w4x w:=by
 unfold laidMetH
 rw [x8t]
 exact h
open YtejcgpekgbiooaaGreatDoor in
theorem v42:w26 Tryz.prog=[(7,((v43 Rows.laid_unicode_utf8_acceptRanges).flatMap fun q=>[q.1,q.2]).map (.int .u8)),(1,(unp Rows.laid_internal_strconv_uint64pow10).map (.int .u64)),(5,(unp Rows.laid_math_bits_deBruijn64tab).map (.int .u8)),(4,(unp Rows.laid_math_bits_deBruijn32tab).map (.int .u8))]:=by kernel_rfl
theorem nm0 : Tryz.prog.globalNamed "internal/bytealg.MaxLen" = some 0 := by kernel_rfl
theorem nm1 : Tryz.prog.globalNamed "internal/strconv.uint64pow10" = some 1 := by kernel_rfl
theorem nm2 : Tryz.prog.globalNamed "strconv.ErrSyntax" = some 2 := by kernel_rfl
theorem nm3 : Tryz.prog.globalNamed "strconv.ErrRange" = some 3 := by kernel_rfl
theorem nm4 : Tryz.prog.globalNamed "math/bits.deBruijn32tab" = some 4 := by kernel_rfl
theorem nm5 : Tryz.prog.globalNamed "math/bits.deBruijn64tab" = some 5 := by kernel_rfl
theorem nm7 : Tryz.prog.globalNamed "unicode/utf8.acceptRanges" = some 7 := by kernel_rfl
open YtejcgpekgbiooaaGreatDoor in
theorem t1l {W : World} (hL0 : laidMetH Tryz.prog w4x W) (hsh : W.ShapedOpen Tryz.prog) : GL Tryz.prog (fun _ => False) W := by
 unfold laidMetH at hL0
 rw [x8t] at hL0
 obtain ⟨ps, hL, _, _⟩ : laidMet Tryz.prog w4x W := hL0
 refine ⟨fun g cells hgl => ?_, fun g b hs => ?_⟩
 ·unfold y12 at hgl
  rw [v42] at hgl
  have fin : ∀ {k : IntKind} {zs : List Int}, (g < W.heap.size ∧ z1c W g = some zs.length ∧ ∀ (j : Nat) (z : Int), zs[j]? = some z → W.cell? ⟨g, j, none⟩ = some (.int k z)) → zs.map (.int k) = cells →
    g < W.heap.size ∧ ¬ False ∧ z1c W g = some cells.length ∧ ∀ (k : Nat) (x : D), cells[k]? = some x → ∃ v, W.cell? ⟨g, k, none⟩ = some v ∧ ∀ (O' : Nat → Prop) (w' : World), z1m O' w' x v := by
   rintro k zs ⟨a, b, c⟩ rfl
   refine ⟨a, id, by rw [b]; simp, fun j x hx => ?_⟩
   rw [eAj] at hx
   cases hz : zs[j]? with
   | none => rw [hz] at hx; cases hx
   | some z =>
    rw [hz] at hx
    cases hx
    exact ⟨_, c j z hz, fun _ _ => .int _ _⟩
  simp only [v6l] at hgl
  cases h7 : eAk 7 g with
  | true =>
   obtain rfl := eAg h7
   simp only [h7, cond_true, Option.some.injEq] at hgl
   exact fin (w9d hL (i := 3) rfl nm7 (t := 231) (by kernel_rfl) (m := 16) (e := 230) (fs := match Tryz.prog.underlying 230 with | some (.struct fs) => fs | _ => #[]) (by kernel_rfl) (by kernel_rfl) (u := 5) (by kernel_rfl) (by kernel_rfl) (by kernel_rfl) (by kernel_rfl) (by kernel_rfl) (by kernel_rfl)) hgl
  | false =>
  cases h1 : eAk 1 g with
  | true =>
   obtain rfl := eAg h1
   simp only [h7, h1, cond_false, cond_true, Option.some.injEq] at hgl
   exact fin (x5v hL (i := 2) rfl nm1 (t := 206) (by kernel_rfl) (m := 20) (e := 100) (by kernel_rfl) (by kernel_rfl) (by kernel_rfl) (by kernel_rfl) (by kernel_rfl)) hgl
  | false =>
  cases h5 : eAk 5 g with
  | true =>
   obtain rfl := eAg h5
   simp only [h7, h1, h5, cond_false, cond_true, Option.some.injEq] at hgl
   exact fin (x5v hL (i := 1) rfl nm5 (t := 227) (by kernel_rfl) (m := 64) (e := 5) (by kernel_rfl) (by kernel_rfl) (by kernel_rfl) (by kernel_rfl) (by kernel_rfl)) hgl
  | false =>
  cases h4 : eAk 4 g with
  | true =>
   obtain rfl := eAg h4
   simp only [h7, h1, h5, h4, cond_false, cond_true, Option.some.injEq] at hgl
   exact fin (x5v hL (i := 0) rfl nm4 (t := 226) (by kernel_rfl) (m := 32) (e := 5) (by kernel_rfl) (by kernel_rfl) (by kernel_rfl) (by kernel_rfl) (by kernel_rfl)) hgl
  | false =>
   simp only [h7, h1, h5, h4, cond_false] at hgl
   cases hgl
 ·unfold y1f at hs
  rw [nm0, nm2, nm3] at hs
  split at hs
  ·rename_i h0
   obtain rfl := Option.some.inj h0
   cases hs
   obtain ⟨m, hm⟩ := cell_of_shapedOpen_int (t := 3) (k := .i64) hsh (g := 0) (of_decide_eq_true (by kernel_rfl)) (zero := #[.int .i64 0]) (by kernel_rfl) rfl (by kernel_rfl) (by kernel_rfl) (by kernel_rfl)
   exact ⟨y19 hm, id, _, hm, m, rfl⟩
  ·split at hs
   ·rename_i h0
    cases hs
    rcases h0 with h0 | h0
    ·obtain rfl := Option.some.inj h0
     obtain ⟨a, u, v, hc⟩ := w5c hL (i := 5) rfl nm2 (t := 120) (ms := #[("Error", 71)]) (by kernel_rfl) (by kernel_rfl)
     exact ⟨a, id, _, hc, .inr ⟨u, v, rfl⟩⟩
    ·obtain rfl := Option.some.inj h0
     obtain ⟨a, u, v, hc⟩ := w5c hL (i := 4) rfl nm3 (t := 120) (ms := #[("Error", 71)]) (by kernel_rfl) (by kernel_rfl)
     exact ⟨a, id, _, hc, .inr ⟨u, v, rfl⟩⟩
   ·cases hs
end Go.Am
end
section
namespace Go.Am
open Go Go.RowKit Go.Proofs D12
theorem x86 {k:IntKind} {x:D} (h:DK (.int k) x):∃ n,x= .int k n∧(Lit.int k n).wf=true:=by
 match x,h with
 | .int a n,h=>obtain ⟨rfl,h⟩:=h; exact ⟨n,rfl,h⟩
theorem w5a {x:D} (h:DK (.list [.int .i64]) x):∃ l:List Int,x= .list false 1 (z0i l)∧(∀ z∈l,(Lit.int .i64 z).wf=true)∧l.length≤maxLen:=by
 match x,h with
 | .list f z es,h=>
  obtain ⟨rfl,rfl,i,e⟩:=h
  rw [y1a] at e
  have:∃ l:List Int,es=z0i l∧∀ z∈l,(Lit.int .i64 z).wf=true:=by
   clear i
   induction es with
   |nil=>exact ⟨[],rfl,fun z h=>by cases h⟩
   |cons r es j=>
    obtain ⟨l,rfl,c⟩:=j fun r d=>e r (eCq _ d)
    have g:=e r (eBv ..)
    match r,g with
    |[y],g=>
     obtain ⟨a,rfl,k⟩:=x86 g.1
     refine ⟨a::l,rfl,fun z b=>?_⟩
     rcases eBa.1 b with rfl|b
     ·exact k
     ·exact c z b
  obtain ⟨l,rfl,c⟩:=this
  exact ⟨l,rfl,c,by simpa [z0i] using i⟩
def t5i:List Int→Bool:=fun _=>false
def u7g (c:Cd):Prop:=(Lit.int .i64 c.n).wf=true∧(Lit.int .i64 c.k).wf=true∧(∀ z∈c.t,(Lit.int .i64 z).wf=true)∧(Lit.int .i64 c.a).wf=true∧c.t.length≤maxLen
theorem x97 {x:D} (h:DK (.list [.int .i64, .int .i64, .list [.int .i64], .int .i64]) x):∃ l:List Cd,x= .list false 4 (z0a t5i l)∧(∀ c∈l,u7g c)∧l.length≤maxLen:=by
 match x,h with
 | .list f z es,h=>
  obtain ⟨rfl,rfl,m,i⟩:=h
  rw [y1a] at i
  have:∃ l:List Cd,es=z0a t5i l∧∀ c∈l,u7g c:=by
   clear m
   induction es with
   |nil=>exact ⟨[],rfl,fun z h=>by cases h⟩
   |cons r es o=>
    obtain ⟨l,rfl,d⟩:=o fun r g=>i r (eCq _ g)
    have b:=i r (eBv ..)
    match r,b with
    |[y,z,w,v],b=>
     obtain ⟨n,rfl,q⟩:=x86 b.1
     obtain ⟨k,rfl,s⟩:=x86 b.2.1
     obtain ⟨t,rfl,p,e⟩:=w5a b.2.2.1
     obtain ⟨a,rfl,u⟩:=x86 b.2.2.2.1
     refine ⟨⟨n,k,t,a⟩::l,rfl,fun c j=>?_⟩
     rcases eBa.1 j with rfl|j
     ·exact ⟨q,s,p,u,e⟩
     ·exact d c j
  obtain ⟨l,rfl,d⟩:=this
  exact ⟨l,rfl,d,by simpa [z0a] using m⟩
end Go.Am
namespace Go.Proofs.YtejcgpekgbiooaaGreatDoor
open Go.ChangeShapes Go.WideShapes Go.ChangeAt Go.RowKit Go.Am
theorem w5f {a:Array TypeId} {args:Array Value} {p:TypeId→Value→Prop} (h:∀ (j:Nat) t v,a[j]?=some t→args[j]?=some v→p t v):
  ∀ (j:Nat) t v,a.toList[j]?=some t→args.toList[j]?=some v→p t v:=fun j t v c b=>h j t v (by simpa using c) (by simpa using b)
theorem own:ownKnob Tryz.prog.godebug=none:=by kernel_rfl
theorem laid:laidOutB Tryz.prog=true:=by kernel_rfl
theorem rowed:mapsRowed Tryz.prog=true:=by kernel_rfl
theorem sized:((eAv Tryz.prog.types.size).all fun t=>match Tryz.prog.underlying t with|some (.slice e)=>decide (0<Tryz.prog.cellsOf e)|_=>true)=true:=by kernel_rfl
theorem wrap {a:Assume} {C:Checked} {os:Os} {H:Type} {enc:TypeId×Value→H} {f:FuncId} {fn:Func} {s:ChangeSpec} {l:List PathCond} {y2b fresh d m:Bool} {L:List (String×DataW Unit)}
  (own:ownKnob C.prog.godebug=none) (k:os.Started) (n:C.prog.inits.idxOf? f=none) (z:C.prog.funcs[f]?=some fn)
  (h:∃ (w:World) (b:Tape) (i:Input),w.os=os∧(w.forCall b i).Shaped C.prog∧i.vars=[]∧Input.okWide C.prog (w.forCall b i) .any w.heap.size f i∧
   ((s.pre enc C.prog fn l y2b (w.forCall b i).memory i.args∧laidMetH C.prog L (w.forCall b i).memory)∧sizedMet enc C.prog fn (OpenSpec.ofChange s) y2b (w.forCall b i).memory i.args)∧a.holds C.prog (lone (eFr C.prog f i.args .normal) [] (w.forCall b i)))
  (g:∀ (W:World) (base:Nat) (args:Array Value) (ds A:List (DataW H)) (c:List MemPlace),
   (∀ (j:Nat) t v,fn.params[j]?=some t→args[j]?=some v→Value.okWide C.prog W .any base t v)→
   DataW.Whole enc C.prog fn.params.toList s.vars y2b W args.toList ds A c→laidMetH C.prog L W→W.ShapedOpen C.prog→
   Calls C.prog f args W fun e E=>∃ v,e= .returned v∧s.post enc C.prog fn y2b fresh d m W args v E):
  ReturnsInHanded a C os f .any (fun w args=>(s.pre enc C.prog fn l y2b w args∧laidMetH C.prog L w)∧sizedMet enc C.prog fn (OpenSpec.ofChange s) y2b w args) (s.post enc C.prog fn y2b fresh d m):=by
 refine returnsInHanded_of_calls own k n h ?_
 intro w b i _ x _ y p r
 obtain ⟨_,_,_,B,q,_,_,_,_,o⟩:=y
 obtain rfl:B=fn:=Option.some.inj (q.symm.trans z)
 obtain ⟨⟨⟨ds,A,c,F,K⟩,I⟩,J⟩:=p
 have u:=DataW.Whole.of_heap (w':=w.forCall b i) (by rfl) F
 refine (g (w.forCall b i) w.heap.size i.args ds A c o u (I.of_heap (by rfl)) x).mono fun e E ⟨v,he,G⟩=>?_
 subst he
 exact ChangeSpec.post_blind G
end Go.Proofs.YtejcgpekgbiooaaGreatDoor
end
