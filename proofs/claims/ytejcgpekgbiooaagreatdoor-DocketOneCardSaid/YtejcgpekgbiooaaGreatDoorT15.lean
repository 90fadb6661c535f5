/- Texts of this claim. -/
import Derived.Test.YtejcgpekgbiooaaGreatDoorT14
import Derived.Test.YtejcgpekgbiooaaGreatDoorProg
import Derived.KernelRfl
set_option linter.unusedVariables false
set_option linter.unusedSimpArgs false
set_option linter.unusedSectionVars false
set_option maxRecDepth 100000
set_option maxHeartbeats 0
open List renaming mem_cons_of_mem → eCm,mem_cons_self → eBq,mem_cons → eAz,length_cons → eBi,cons_append → eDr,map_cons → eDc,nodup_cons → eDt,ext_getElem? → eBd,getElem?_map → eAg,take_length → eDf,nil_append → eDp,drop_zero → eDj,getElem?_eq_some_iff → eAd,drop_drop → eCw,mem_map → eBb,any_eq_true → eCz,map_append → eDu,idxOf_lt_length_of_mem → eDd,length_map → eBt,getElem?_eq_getElem → eAa,getElem_mem → eCp,getElem_idxOf → eDe,mem_of_getElem? → eAu,getD_eq_getElem?_getD → eCi,getElem?_replicate → eCf,foldl_cons → eDs,mem_of_getLast? → eDm,mem_append_left → eDl,mem_append → eBj,mem_singleton → eBe,nodup_append → eDg,mem_iff_getElem → eDi,mem_filter → eDa,append_assoc → eCg,length_eq_zero_iff → eBn,append_nil → eCn,mem_range → eBo,mem_of_find?_eq_some → eDb,getElem?_set → eBm,map_congr_left → eDw,map_nil → eDh,take_add_one → eDo,all_eq_true → eAr,length_take → eBv,getElem?_append_left → eBz,getElem?_append_right → eCv,getElem?_eq_none → eCt,length_append → eBu,getElem?_cons_zero → eCo
open Nat renaming pow_lt_pow_right → eDv,lt_of_lt_of_le → eAn,mod_eq_of_lt → eCy,zero_add → eAp,le_refl → eAk,add_zero → eAt,zero_le → eAv,lt_or_ge → eBw,ble_eq_true_of_le → eBg,le_trans → eBf,mod_lt → eCr
open Option renaming map_some → eBh,getD_some → eBk
open Bool renaming and_self → eDq,and_true → eCc,eq_iff_iff → eCu,false_eq_true → eAi,and_eq_true → eAb,not_eq_true' → eBy,not_false → eCq
open Int renaming toNat_natCast → eCh
open Go.Proofs.Tryz renaming prog → PG
section
namespace Go.Am
open Go Go.RowKit Go.Proofs D12
theorem u3c {n:Int} (h:(Lit.int IntKind.u8 n).wf=true):0≤n∧n≤255:=by
 simp only [Lit.wf,IntKind.min,IntKind.max,IntKind.signed,IntKind.bits] at h
 simp at h
 omega
theorem u6f {x:D} (h:DK (.int .u8) x):∃ n:Int,x= .int .u8 n∧0≤n∧n≤255:=by
 obtain ⟨n,rfl,hn⟩:=x34 h
 exact ⟨n,rfl,u3c hn⟩
theorem v9i {x:D} (h:DK (.list [.int .u8]) x):∃ l:List Int,x= .list false 1 (v5x l)∧(∀ z∈l,0≤z∧z≤255)∧l.length≤maxLen:=by
 match x,h with
 | .list f z es,h=>
  obtain ⟨rfl,rfl,hl,hr⟩:=h
  rw [z9j] at hr
  have:∃ l:List Int,es=v5x l∧∀ z∈l,0≤z∧z≤255:=by
   clear hl
   induction es with
   |nil=>exact ⟨[],rfl,fun z h=>by cases h⟩
   |cons r es ih=>
    obtain ⟨l,rfl,hw⟩:=ih fun r hr'=>hr r (eCm _ hr')
    have h0:=hr r (eBq ..)
    match r,h0 with
    |[y],h0=>
     obtain ⟨a,rfl,ha⟩:=u6f h0.1
     refine ⟨a::l,rfl,fun z hz=>?_⟩
     rcases eAz.1 hz with rfl|hz
     ·exact ha
     ·exact hw z hz
  obtain ⟨l,rfl,hw⟩:=this
  exact ⟨l,rfl,hw,by simpa [v5x] using hl⟩
end Go.Am
end
noncomputable section
namespace Go.Am
theorem u7o:GamOk PG (v05):=by
 intro cf h
 simp only [v05,eAz,List.not_mem_nil,or_false] at h
 rcases h with rfl|rfl
 ·exact w66
 ·exact w4e
def F56:Prim→Tup (w8e).scs→Option (STup (scss (w8e).outs)):=
 fun p x=>G56 p x
def F19:Prim→Tup (w8g).scs→Option (STup (scss (w8g).outs)):=
 fun p x=>G19 p x
def u4c:Ctr:=
 ⟨78,[.list 4, .list 4],[],[(.ret,⟨[(0, .int .i64)],[],1⟩)]⟩
def la78:List LA:=
 []
def ja78:List JA:=
 []
def u7t:List CF:=
 [⟨w8g,F19⟩]
def an78:Anns:=
 ⟨u7t,ja78,[]⟩
def G78:(p:Prim)→W22w→Option (W0w):=
 fun p x=>
 opt.bnd (W0w) _ (G19 p (x.1,())) fun a=>
 opt.ask _ (p.cmp .neq a.1 (0:Int)) (
 opt.ret _ a) (
 opt.bnd (W0w) _ (G19 p x.2) fun b=>
 opt.ret _ b)
theorem ok78:CtrOk PG u4c (G78 std):=okF vE (a:=an78) (l:=la78) (gC v2d (gN))
end Go.Am
end
noncomputable section
namespace Go.Am
def u0h:Ctr:=
 ⟨117,[.list 1],[],[(.ret,⟨[(0, .list 1)],[],1⟩)]⟩
def u7c:List LA:=
 []
def u7m:List JA:=
 []
def u3w:List CF:=
 []
def u9c:Anns:=
 ⟨u3w,u7m,[]⟩
def u5u:(p:Prim)→W10w→Option (W10w):=
 fun p x=>let A:=p.add 0 (p.len x.1);let B:=p.leN (p.add 0 0) (p.len []);let C:=p.splice [] (p.add 0 0) x.1;let E:=p.app (p.cut [] 0 0) x.1;
 opt.need _ (p.leN 1 (p.len x.1))<|
 opt.ask _ (p.leN A 0) (
 opt.need _ (p.and Bool.true (p.and B B))<|
 opt.need _ (p.leN (p.add 0 A) (p.len C))<|
 opt.ret _ ((p.cut C 0 A),())) (
 opt.need _ (p.and Bool.true (p.and B (p.and (p.leN 1 (p.len x.1)) (p.leN A 1000000))))<|
 opt.need _ (p.leN (p.add 0 A) (p.len E))<|
 opt.ret _ ((p.cut E 0 A),()))
theorem u6s:CtrOk PG u0h (u5u std):=okF vE (a:=u9c) (l:=u7c) (gN)
end Go.Am
end
noncomputable section
namespace Go.Am
def u1r:Ctr:=
 ⟨72,[.agg [.int .u64, .int .u64], .int .i64],[],[(.ret,⟨[(0, .agg [.int .u64, .int .u64])],[],1⟩)]⟩
def la72:List LA:=
 []
def ja72:List JA:=
 []
def u7y:List CF:=
 []
def an72:Anns:=
 ⟨u7y,ja72,[]⟩
def G72:(p:Prim)→(Int×W32w)→Option (W32w):=
 fun p x=>let G:=(1:Int);let E:=(0:Int);let A:=bif (p.cmp .geq G E) then (p.cmp .lss G (p.ofNat 2)) else Bool.false;let B:=bif (p.cmp .geq E E) then (p.cmp .lss E (p.ofNat 2)) else Bool.false;let F:=p.ar .rem .i64 x.2.2.1 (64:Int);let C:=p.ar .shl .u64 G F;let H:=p.cmp .neq (64:Int) E;let I:=p.ar .quo .i64 x.2.2.1 (64:Int);let J:=p.ar .or .u64 x.2.1 C;
 opt.need _ H<|
 opt.ask _ (p.cmp .eql I E) (
 opt.need _ B<|
 opt.need _ H<|
 opt.need _ (p.cmp .geq F E)<|
 opt.ask _ (p.cmp .eql E E) (
 opt.need _ B<|
 opt.ret _ ((p.ar .or .u64 x.1 C),(x.2.1,()))) (
 opt.need _ (p.cmp .eql E G)<|
 opt.need _ A<|
 opt.ret _ (x.1,((p.ar .or .u64 x.1 C),())))) (
 opt.need _ (p.cmp .eql I G)<|
 opt.need _ A<|
 opt.need _ H<|
 opt.need _ (p.cmp .geq F E)<|
 opt.ask _ (p.cmp .eql G E) (
 opt.need _ B<|
 opt.ret _ (J,(x.2.1,()))) (
 opt.need _ (p.cmp .eql G G)<|
 opt.need _ A<|
 opt.ret _ (x.1,(J,()))))
theorem u9n:CtrOk PG u1r (G72 std):=okF vE (a:=an72) (l:=la72) (gN)
def u4f:Ctr:=
 ⟨74,[.agg [.int .u64, .int .u64], .int .i64],[],[(.ret,⟨[(0, .bool)],[],1⟩)]⟩
def la74:List LA:=
 []
def ja74:List JA:=
 [⟨74,[fF,tT],0,[(AX.normal,⟨[(4, .bool)],[],14⟩)]⟩]
def u7x:List CF:=
 []
def an74:Anns:=
 ⟨u7x,ja74,[]⟩
def G74:(p:Prim)→(Int×W32w)→Option (W3w):=
 fun p x=>let A:=p.ar .rem .i64 x.2.2.1 (64:Int);let B:=(0:Int);let C:=p.cmp .neq (64:Int) B;let E:=(1:Int);let F:=p.ar .quo .i64 x.2.2.1 (64:Int);
 opt.bnd (W3w) _ (
 opt.run (W3w) (
 opt.need _ C<|
 opt.ask _ (p.cmp .eql F B) (
 opt.need _ (bif (p.cmp .geq B B) then (p.cmp .lss B (p.ofNat 2)) else Bool.false)<|
 opt.need _ C<|
 opt.need _ (p.cmp .geq A B)<|
 opt.ret _ ((p.cmp .eql (p.ar .and .u64 (p.ar .shr .u64 x.1 A) E) E),())) (
 opt.need _ (p.cmp .eql F E)<|
 opt.need _ (bif (p.cmp .geq E B) then (p.cmp .lss E (p.ofNat 2)) else Bool.false)<|
 opt.need _ C<|
 opt.need _ (p.cmp .geq A B)<|
 opt.ret _ ((p.cmp .eql (p.ar .and .u64 (p.ar .shr .u64 x.2.1 A) E) E),())))) fun a=>
 opt.ret _ a
theorem ok74:CtrOk PG u4f (G74 std):=okF vE (a:=an74) (l:=la74) (gN)
def u0f:Ctr:=
 ⟨132,[.agg [.int .u64, .int .u64], .agg [.int .u64, .int .u64]],[],[(.ret,⟨[(0, .agg [.int .u64, .int .u64])],[],1⟩)]⟩
def u7a:List LA:=
 [⟨132,[fF,tT,fF,tT],0,⟨⟨[(2, .bptr 0 0),(3, .bptr 1 0),(4, .bptr 2 0),(6, .int .i64)],[q7m,q7m,q7m],19⟩,[((AX.exit 0),⟨[(2, .bptr 0 0),(4, .bptr 1 0)],[q7m,q7m],19⟩)]⟩⟩]
def u7k:List JA:=
 [⟨132,[fF,tT,tT,fF,fF,tT,fF,tT],0,[(AX.normal,⟨[(2, .bptr 0 0),(3, .bptr 1 0),(4, .bptr 2 0),(6, .int .i64)],[q7m,q7m,q7m],19⟩)]⟩]
def u3u:List CF:=
 []
def u9a:Anns:=
 ⟨u3u,u7k,[]⟩
def v6t (p:Prim):W21w→Option (W21w⊕W12w):=
 fun a=>let E:=(1:Int);let C:=(0:Int);let A:=bif (p.cmp .geq E C) then (p.cmp .lss E (p.ofNat 2)) else Bool.false;let B:=bif (p.cmp .geq C C) then (p.cmp .lss C (p.ofNat 2)) else Bool.false;let F:=a.2.2.2.2.2.2.1;let G:=p.ar .and .u64 a.2.1 a.2.2.2.1;let H:=p.cmp .eql F E;let I:=p.cmp .eql F C;let J:=p.ar .and .u64 a.2.1 a.2.2.1;let K:=p.ar .and .u64 a.1 a.2.2.2.1;let L:=p.ar .and .u64 a.1 a.2.2.1; opt.run _ (
 opt.ask _ (p.cmp .lss F (2:Int)) (
 opt.bnd (W21w) _ (
 opt.run (W21w) (
 opt.ask _ I (
 opt.need _ B<|
 opt.ask _ I (
 opt.need _ B<|
 opt.ask _ (p.cmp .eql C C) (
 opt.need _ B<|
 opt.ret _ (L,a.2)) (
 opt.need _ (p.cmp .eql C E)<|
 opt.need _ A<|
 opt.ret _ (a.1,(L,a.2.2)))) (
 opt.need _ H<|
 opt.need _ A<|
 opt.ask _ (p.cmp .eql C C) (
 opt.need _ B<|
 opt.ret _ (K,a.2)) (
 opt.need _ (p.cmp .eql C E)<|
 opt.need _ A<|
 opt.ret _ (a.1,(K,a.2.2))))) (
 opt.need _ H<|
 opt.need _ A<|
 opt.ask _ I (
 opt.need _ B<|
 opt.ask _ (p.cmp .eql E C) (
 opt.need _ B<|
 opt.ret _ (J,a.2)) (
 opt.need _ (p.cmp .eql E E)<|
 opt.need _ A<|
 opt.ret _ (a.1,(J,a.2.2)))) (
 opt.need _ H<|
 opt.need _ A<|
 opt.ask _ (p.cmp .eql E C) (
 opt.need _ B<|
 opt.ret _ (G,a.2)) (
 opt.need _ (p.cmp .eql E E)<|
 opt.need _ A<|
 opt.ret _ (a.1,(G,a.2.2))))))) fun b=>
 opt.ret _ (Sum.inl (b.1,(b.2.1,(b.2.2.1,(b.2.2.2.1,(b.2.2.2.2.1,(b.2.2.2.2.2.1,((p.ar .add .i64 b.2.2.2.2.2.2.1 E),()))))))))) (
 opt.ret _ (Sum.inr (a.1,(a.2.1,(a.2.2.2.2.1,(a.2.2.2.2.2.1,())))))))
def u5t:(p:Prim)→W12w→Option (W32w):=
 fun p x=>
 opt.bnd (W12w) _ (
 z5r (v6t p) (x.1,(x.2.1,(x.2.2.1,(x.2.2.2.1,((0:Int),((0:Int),((0:Int),())))))))) fun a=>
 opt.ret _ (a.1,(a.2.1,()))
theorem u6q:CtrOk PG u0f (u5t std):=okF vE (a:=u9a) (l:=u7a) (gN)
def u4e:Ctr:=
 ⟨75,[.agg [.int .i64, .int .i64, .list 1, .int .i64]],[],[(.ret,⟨[(0, .agg [.int .i64, .int .i64, .list 1, .int .i64])],[],1⟩)]⟩
def la75:List LA:=
 []
def ja75:List JA:=
 []
def u7w:List CF:=
 [⟨u0h,u5u⟩]
def an75:Anns:=
 ⟨u7w,ja75,[]⟩
def G75:(p:Prim)→W25w→Option (W25w):=
 fun p x=>
 opt.bnd (W10w) _ (u5u p (x.2.2.1,())) fun a=>
 opt.ret _ (x.1,(x.2.1,(a.1,x.2.2.2)))
theorem ok75:CtrOk PG u4e (G75 std):=okF vE (a:=an75) (l:=la75) (gC u6s (gN))
end Go.Am
end
noncomputable section
namespace Go.Am
def u1t:Ctr:=
 ⟨66,[.list 1],[],[(.ret,⟨[(0, .bptr 0 0)],q14m,1⟩)]⟩
def la66:List LA:=
 [⟨66,[fF,tT,fF,tT,tT],0,⟨⟨[(0, .list 1),(3, .bptr 0 0),(23, .list 1),(24, .int .i64),(25, .int .i64)],[.box [.sl 2 4, .map 1, .nils], .map,q5m],146⟩,[((AX.exit 0),⟨[(0, .list 1),(3, .bptr 0 0)],q15m,146⟩)]⟩⟩,
 ⟨66,[fF,tT,tT,fF,fF,tT,tT,fF,fF,tT,fF,tT,tT],0,⟨⟨[(0, .list 1),(3, .bptr 0 0),(23, .list 1),(24, .int .i64),(25, .int .i64),(29, .list 4),(30, .int .i64),(31, .int .i64)],q15m,146⟩,[((AX.exit 2),⟨[(0, .list 1),(3, .bptr 0 0),(23, .list 1),(24, .int .i64),(25, .int .i64)],q15m,146⟩)]⟩⟩,
 ⟨66,[fF,tT,fF,tT,tT,tT,tT],0,⟨⟨[(3, .bptr 0 0),(90, .list 1),(91, .int .i64),(92, .int .i64)],q14m,146⟩,[((AX.exit 4),⟨[(3, .bptr 0 0)],q14m,146⟩)]⟩⟩,
 ⟨66,[fF,tT,tT,tT,fF,fF,tT,tT,fF,fF,tT,fF,tT,tT,tT,tT],0,⟨⟨[(3, .bptr 0 0),(12, .map 1),(90, .list 1),(91, .int .i64),(92, .int .i64),(97, .list 4),(98, .int .i64),(99, .int .i64)],q13m,146⟩,[((AX.exit 6),⟨[(3, .bptr 0 0),(90, .list 1),(91, .int .i64),(92, .int .i64)],q14m,146⟩)]⟩⟩,
 ⟨66,[fF,tT,tT,tT,fF,fF,tT,tT,fF,fF,tT,tT,tT,fF,fF,tT,tT,fF,fF,tT,fF,tT,tT,tT,tT],0,⟨⟨[(3, .bptr 0 0),(12, .map 1),(15, .int .i64),(90, .list 1),(91, .int .i64),(92, .int .i64),(97, .list 4),(98, .int .i64),(99, .int .i64),(111, .list 1),(112, .int .i64),(113, .int .i64)],q13m,146⟩,[((AX.exit 8),⟨[(3, .bptr 0 0),(12, .map 1),(90, .list 1),(91, .int .i64),(92, .int .i64),(97, .list 4),(98, .int .i64),(99, .int .i64)],q13m,146⟩)]⟩⟩]
def ja66:List JA:=
 [⟨66,[fF,tT,tT,fF,fF,tT,tT,tT,fF,fF,tT,tT,fF,fF,tT,fF,tT,tT,tT,tT],0,[(AX.normal,⟨[(3, .bptr 0 0),(12, .map 1),(90, .list 1),(91, .int .i64),(92, .int .i64),(97, .list 4),(98, .int .i64),(99, .int .i64)],q13m,146⟩)]⟩,
 ⟨66,[fF,tT,tT,fF,fF,tT,tT,tT,fF,fF,tT,tT,fF,fF,tT,tT,tT,fF,fF,tT,tT,fF,fF,tT,fF,tT,tT,tT,tT],0,[(AX.normal,⟨[(3, .bptr 0 0),(12, .map 1),(15, .int .i64),(90, .list 1),(91, .int .i64),(92, .int .i64),(97, .list 4),(98, .int .i64),(99, .int .i64),(111, .list 1),(112, .int .i64),(113, .int .i64)],q13m,146⟩)]⟩,
 ⟨66,[fF,tT,tT,fF,fF,tT,tT,fF,fF,tT,tT,fF,fF,tT,fF,tT,tT],0,[(AX.normal,⟨[(0, .list 1),(3, .bptr 0 0),(23, .list 1),(24, .int .i64),(25, .int .i64),(29, .list 4),(30, .int .i64),(31, .int .i64)],q15m,146⟩)]⟩,
 ⟨66,[tT,tT,tT,fF,fF,tT,tT,fF,fF,tT,tT,fF,fF,tT,tT,fF,fF,tT,fF,tT,tT],0,[(AX.normal,⟨[(0, .list 1),(3, .bptr 0 0),(23, .list 1),(24, .int .i64),(25, .int .i64),(29, .list 4),(30, .int .i64),(31, .int .i64)],q15m,146⟩)]⟩]
def u8a:List CF:=
 [⟨u1r,G72⟩]
def an66:Anns:=
 ⟨u8a,ja66,[]⟩
def u8t (p:Prim):W5w→Option (W5w⊕W8w):=
 fun a=>let S:=a.2.2.2.2.2.2.2.2.2.2.2.2.2.1;let F:=a.2.2.2.2.2.2.2.2.2.2.2.2.2.2.2.1;let A:=D.int .i64 (p.rdI S (p.nat F) 0);let Q:=a.2.2.2.1;let E:=a.2.2.2.2.2.2.1;let M:=p.add 0 (p.nat E);let C:=p.len Q;let G:=p.mOk a.1 [SK.i] Bool.false A Bool.false [ci];let H:=p.mset a.1 (p.nat (p.ofNat (p.mpos a.1 [SK.i] Bool.false A))) A (D.int .i64 E);let I:=bif (p.cmp .geq E (0:Int)) then (p.cmp .lss E (p.ofNat C)) else Bool.false;let J:=p.rowOk Q M [(CK.int .u64),(CK.int .u64)];let K:=p.mhas a.1 [SK.i] Bool.false A;let O:=p.eqN C C;let P:=p.eqN 0 0;let T:=p.madd a.1 A (D.int .i64 E); opt.run _ (
 opt.ask _ (p.cmp .lss F a.2.2.2.2.2.2.2.2.2.2.2.2.2.2.1) (
 opt.bnd (W5w) _ (
 opt.run (W5w) (
 opt.need _ (p.rowOk S (p.nat F) [ci])<|
 opt.need _ (p.cmp .geq F (0:Int))<|
 opt.need _ G<|
 opt.ask _ K (
 opt.need _ I<|
 opt.need _ J<|
 opt.bnd (W32w) _ (G72 p ((p.rdI Q M 0),((p.rdI Q M 1),((p.mI a.1 [SK.i] Bool.false A 0),())))) fun b=>let B:=p.set Q M [(D.int .u64 b.1),(D.int .u64 b.2.1)];let L:=p.eqN C (p.len B);let R:=(a.2.1,(a.2.2.1,(B,a.2.2.2.2)));
 opt.need _ I<|
 opt.need _ J<|
 opt.need _ G<|
 opt.ask _ K (
 opt.need _ P<|
 opt.need _ L<|
 opt.need _ L<|
 opt.ret _ (H,R)) (
 opt.need _ P<|
 opt.need _ L<|
 opt.need _ L<|
 opt.ret _ (T,R))) (
 opt.need _ G<|
 opt.ask _ K (
 opt.need _ P<|
 opt.need _ O<|
 opt.need _ O<|
 opt.ret _ (H,a.2)) (
 opt.need _ P<|
 opt.need _ O<|
 opt.need _ O<|
 opt.ret _ (T,a.2))))) fun c=>let N:=p.len c.2.2.2.1;
 opt.need _ P<|
 opt.need _ (p.eqN N N)<|
 opt.need _ (p.eqN N N)<|
 opt.ret _ (Sum.inl (c.1,(c.2.1,(c.2.2.1,(c.2.2.2.1,(c.2.2.2.2.1,(c.2.2.2.2.2.1,(c.2.2.2.2.2.2.1,(c.2.2.2.2.2.2.2.1,(c.2.2.2.2.2.2.2.2.1,(c.2.2.2.2.2.2.2.2.2.1,(c.2.2.2.2.2.2.2.2.2.2.1,(c.2.2.2.2.2.2.2.2.2.2.2.1,(c.2.2.2.2.2.2.2.2.2.2.2.2.1,(c.2.2.2.2.2.2.2.2.2.2.2.2.2.1,(c.2.2.2.2.2.2.2.2.2.2.2.2.2.2.1,((p.ar .add .i64 c.2.2.2.2.2.2.2.2.2.2.2.2.2.2.2.1 (1:Int)),())))))))))))))))))) (
 opt.need _ P<|
 opt.need _ O<|
 opt.need _ O<|
 opt.ret _ (Sum.inr (a.1,(a.2.1,(a.2.2.1,(Q,(a.2.2.2.2.1,(a.2.2.2.2.2.1,(a.2.2.2.2.2.2.2.1,(a.2.2.2.2.2.2.2.2.1,(a.2.2.2.2.2.2.2.2.2.1,(a.2.2.2.2.2.2.2.2.2.2.1,(a.2.2.2.2.2.2.2.2.2.2.2.1,(a.2.2.2.2.2.2.2.2.2.2.2.2.1,())))))))))))))))
def v7c (p:Prim):W5w→Option (W5w⊕W8w):=
 fun a=>let S:=a.2.2.2.2.2.2.2.2.2.2.2.2.2.1;let F:=a.2.2.2.2.2.2.2.2.2.2.2.2.2.2.2.1;let A:=D.int .i64 (p.rdI S (p.nat F) 0);let Q:=a.2.2.2.1;let E:=a.2.2.2.2.2.2.1;let M:=p.add 0 (p.nat E);let C:=p.len Q;let G:=p.mOk a.1 [SK.i] Bool.false A Bool.false [ci];let H:=p.mset a.1 (p.nat (p.ofNat (p.mpos a.1 [SK.i] Bool.false A))) A (D.int .i64 E);let I:=bif (p.cmp .geq E (0:Int)) then (p.cmp .lss E (p.ofNat C)) else Bool.false;let J:=p.rowOk Q M [(CK.int .u64),(CK.int .u64)];let K:=p.mhas a.1 [SK.i] Bool.false A;let O:=p.eqN C C;let P:=p.eqN 0 0;let T:=p.madd a.1 A (D.int .i64 E); opt.run _ (
 opt.ask _ (p.cmp .lss F a.2.2.2.2.2.2.2.2.2.2.2.2.2.2.1) (
 opt.bnd (W5w) _ (
 opt.run (W5w) (
 opt.need _ (p.rowOk S (p.nat F) [ci])<|
 opt.need _ (p.cmp .geq F (0:Int))<|
 opt.need _ G<|
 opt.ask _ K (
 opt.need _ I<|
 opt.need _ J<|
 opt.bnd (W32w) _ (G72 p ((p.rdI Q M 0),((p.rdI Q M 1),((p.mI a.1 [SK.i] Bool.false A 0),())))) fun b=>let B:=p.set Q M [(D.int .u64 b.1),(D.int .u64 b.2.1)];let L:=p.eqN C (p.len B);let R:=(a.2.1,(a.2.2.1,(B,a.2.2.2.2)));
 opt.need _ I<|
 opt.need _ J<|
 opt.need _ G<|
 opt.ask _ K (
 opt.need _ P<|
 opt.need _ L<|
 opt.need _ L<|
 opt.ret _ (H,R)) (
 opt.need _ P<|
 opt.need _ L<|
 opt.need _ L<|
 opt.ret _ (T,R))) (
 opt.need _ G<|
 opt.ask _ K (
 opt.need _ P<|
 opt.need _ O<|
 opt.need _ O<|
 opt.ret _ (H,a.2)) (
 opt.need _ P<|
 opt.need _ O<|
 opt.need _ O<|
 opt.ret _ (T,a.2))))) fun c=>let N:=p.len c.2.2.2.1;
 opt.need _ P<|
 opt.need _ (p.eqN N N)<|
 opt.need _ (p.eqN N N)<|
 opt.ret _ (Sum.inl (c.1,(c.2.1,(c.2.2.1,(c.2.2.2.1,(c.2.2.2.2.1,(c.2.2.2.2.2.1,(c.2.2.2.2.2.2.1,(c.2.2.2.2.2.2.2.1,(c.2.2.2.2.2.2.2.2.1,(c.2.2.2.2.2.2.2.2.2.1,(c.2.2.2.2.2.2.2.2.2.2.1,(c.2.2.2.2.2.2.2.2.2.2.2.1,(c.2.2.2.2.2.2.2.2.2.2.2.2.1,(c.2.2.2.2.2.2.2.2.2.2.2.2.2.1,(c.2.2.2.2.2.2.2.2.2.2.2.2.2.2.1,((p.ar .add .i64 c.2.2.2.2.2.2.2.2.2.2.2.2.2.2.2.1 (1:Int)),())))))))))))))))))) (
 opt.need _ P<|
 opt.need _ O<|
 opt.need _ O<|
 opt.ret _ (Sum.inr (a.1,(a.2.1,(a.2.2.1,(Q,(a.2.2.2.2.1,(a.2.2.2.2.2.1,(a.2.2.2.2.2.2.2.1,(a.2.2.2.2.2.2.2.2.1,(a.2.2.2.2.2.2.2.2.2.1,(a.2.2.2.2.2.2.2.2.2.2.1,(a.2.2.2.2.2.2.2.2.2.2.2.1,(a.2.2.2.2.2.2.2.2.2.2.2.2.1,())))))))))))))))
def v8i (p:Prim):W8w→Option (W8w⊕W24w):=
 fun a=>let E:=a.2.2.2.2.2.2.2.2.2.1;let N:=a.2.2.2.2.2.2.2.2.2.2.1;let C:=a.2.2.2.2.2.2.2.2.2.2.2.1;let O:=p.nat C;let A:=(a.2.2.2.2.2.2.1,(a.2.2.2.2.2.2.2.1,(a.2.2.2.2.2.2.2.2.1,(E,(N,(C,((p.rdL E O 2),((p.ofNat (p.len (p.rdL E O 2))),((0:Int),())))))))));let K:=a.2.2.2.1;let B:=p.eqN (p.len K) (p.len K);let F:=D.int .i64 (p.rdI E O 0);let J:=p.eqN 0 0;let L:=a.2.2.1;let M:=a.2.2.2.2.2.1; opt.run _ (
 opt.ask _ (p.cmp .lss C N) (
 opt.bnd (W8w) _ (
 opt.run (W8w) (
 opt.need _ (p.rowOk E O [ci,ci,(CK.list 1),ci])<|
 opt.need _ (p.cmp .geq C (0:Int))<|
 opt.need _ (p.mOk L [SK.i] Bool.false F Bool.false [ci])<|
 opt.ask _ (p.mhas L [SK.i] Bool.false F) (
 opt.need _ J<|
 opt.need _ B<|
 opt.need _ B<|
 opt.bnd (W8w) _ (
 z5r (v7c p) (a.1,(a.2.1,(L,(K,(a.2.2.2.2.1,(M,((p.mI L [SK.i] Bool.false F 0),A)))))))) fun b=>let I:=p.len b.2.2.2.1;
 opt.need _ J<|
 opt.need _ (p.eqN I I)<|
 opt.need _ (p.eqN I I)<|
 opt.ret _ b) (
 opt.need _ J<|
 opt.need _ B<|
 opt.need _ B<|
 opt.bnd (W8w) _ (
 z5r (u8t p) (a.1,(a.2.1,(L,(K,(a.2.2.2.2.1,(M,((0:Int),A)))))))) fun c=>let H:=p.len c.2.2.2.1;
 opt.need _ J<|
 opt.need _ (p.eqN H H)<|
 opt.need _ (p.eqN H H)<|
 opt.ret _ c))) fun d=>let G:=p.len d.2.2.2.1;
 opt.need _ J<|
 opt.need _ (p.eqN G G)<|
 opt.need _ (p.eqN G G)<|
 opt.ret _ (Sum.inl (d.1,(d.2.1,(d.2.2.1,(d.2.2.2.1,(d.2.2.2.2.1,(d.2.2.2.2.2.1,(d.2.2.2.2.2.2.1,(d.2.2.2.2.2.2.2.1,(d.2.2.2.2.2.2.2.2.1,(d.2.2.2.2.2.2.2.2.2.1,(d.2.2.2.2.2.2.2.2.2.2.1,((p.ar .add .i64 d.2.2.2.2.2.2.2.2.2.2.2.1 (1:Int)),())))))))))))))) (
 opt.need _ J<|
 opt.need _ B<|
 opt.need _ B<|
 opt.ret _ (Sum.inr (a.2.1,(L,(K,(a.2.2.2.2.1,(M,(a.2.2.2.2.2.2.1,(a.2.2.2.2.2.2.2.1,(a.2.2.2.2.2.2.2.2.1,())))))))))))
def v8j (p:Prim):W24w→Option (W24w⊕W23w):=
 fun a=>let A:=p.eqN (p.len a.2.2.1) (p.len a.2.2.1);let B:=a.2.2.2.2.2.2.2.1;let E:=a.2.2.2.2.2.1; opt.run _ (
 opt.ask _ (p.cmp .lss B a.2.2.2.2.2.2.1) (
 opt.need _ (p.rowOk E (p.nat B) [(CK.list 4)])<|
 opt.need _ (p.cmp .geq B (0:Int))<|
 opt.need _ (p.eqN 0 0)<|
 opt.need _ A<|
 opt.need _ A<|
 opt.bnd (W24w) _ (
 z5r (v8i p) ([],(a.1,(a.2.1,(a.2.2.1,(a.2.2.2.1,(a.2.2.2.2.1,(E,(a.2.2.2.2.2.2.1,(B,((p.rdL E (p.nat B) 0),((p.ofNat (p.len (p.rdL E (p.nat B) 0))),((0:Int),()))))))))))))) fun b=>let C:=p.len b.2.2.1;
 opt.need _ (p.eqN 0 0)<|
 opt.need _ (p.eqN C C)<|
 opt.need _ (p.eqN C C)<|
 opt.ret _ (Sum.inl (b.1,(b.2.1,(b.2.2.1,(b.2.2.2.1,(b.2.2.2.2.1,(b.2.2.2.2.2.1,(b.2.2.2.2.2.2.1,((p.ar .add .i64 b.2.2.2.2.2.2.2.1 (1:Int)),())))))))))) (
 opt.need _ (p.eqN 0 0)<|
 opt.need _ A<|
 opt.need _ A<|
 opt.ret _ (Sum.inr (a.1,(a.2.1,(a.2.2.1,(a.2.2.2.1,(a.2.2.2.2.1,()))))))))
def v7d (p:Prim):W11w→Option (W11w⊕(LD×(List (W19w)×W43w))):=
 fun a=>let L:=a.2.2.2.2.2.2.2.2.1;let G:=a.2.2.2.2.2.2.2.2.2.2.1;let Q:=p.nat G;let C:=D.int .i64 (p.rdI L Q 0);let A:=[[C,(D.int .i64 (p.rdI L Q 1)),(D.list (p.rdF L Q 2 1) 1 (p.rdL L Q 2)),(D.int .i64 (p.rdI L Q 3))]];let F:=p.ofNat a.2.2.2.1;let S:=(0:Int);let B:=p.sub (p.nat F) (p.nat S);let E:=p.add a.2.2.1 (p.nat S);let H:=p.leN (p.add E B) (p.len a.1);let I:=p.splice a.1 (p.add E B) (p.cut A 0 1);let J:=p.and (p.cmp .geq S S) (p.and (p.cmp .leq S F) (p.and (p.cmp .leq F F) (p.cmp .leq F F)));let X:=p.leN (p.add 0 1) (p.len A);let Y:=p.add B 1;let K:=p.and X (p.and H (p.and (p.leN 1 1) (p.leN Y 1000000)));let M:=p.mset a.2.1 (p.nat (p.ofNat (p.mpos a.2.1 [SK.i] Bool.false C))) C (D.int .i64 F);let N:=p.and X (p.and H (p.and (p.leN 1 1) H));let O:=(Y,a.2.2.2.2);let P:=p.mOk a.2.1 [SK.i] Bool.false C Bool.false [ci];let R:=p.app (p.cut a.1 E B) (p.cut A 0 1);let T:=p.mhas a.2.1 [SK.i] Bool.false C;let U:=p.madd a.2.1 C (D.int .i64 F);let V:=p.leN (p.add E B) (p.len I); opt.run _ (
 opt.ask _ (p.cmp .lss G a.2.2.2.2.2.2.2.2.2.1) (
 opt.bnd (W11w) _ (
 opt.run (W11w) (
 opt.need _ (p.rowOk L Q [ci,ci,(CK.list 1),ci])<|
 opt.need _ (p.cmp .geq G S)<|
 opt.need _ P<|
 opt.ask _ T (
 opt.bnd (W11w) _ (
 opt.run (W11w) (
 opt.ret _ a)) fun b=>
 opt.ret _ b) (
 opt.bnd (W11w) _ (
 opt.run (W11w) (
 opt.need _ P<|
 opt.ask _ T (
 opt.need _ J<|
 opt.ask _ (p.leN Y B) (
 opt.need _ N<|
 opt.need _ V<|
 opt.ret _ (I,(M,(E,O)))) (
 opt.need _ K<|
 opt.ret _ (R,(M,(0,O))))) (
 opt.need _ J<|
 opt.ask _ (p.leN Y B) (
 opt.need _ N<|
 opt.need _ V<|
 opt.ret _ (I,(U,(E,O)))) (
 opt.need _ K<|
 opt.ret _ (R,(U,(0,O))))))) fun c=>
 opt.ret _ c))) fun d=>
 opt.ret _ (Sum.inl (d.1,(d.2.1,(d.2.2.1,(d.2.2.2.1,(d.2.2.2.2.1,(d.2.2.2.2.2.1,(d.2.2.2.2.2.2.1,(d.2.2.2.2.2.2.2.1,(d.2.2.2.2.2.2.2.2.1,(d.2.2.2.2.2.2.2.2.2.1,((p.ar .add .i64 d.2.2.2.2.2.2.2.2.2.2.1 (1:Int)),()))))))))))))) (
 opt.ret _ (Sum.inr (a.1,(a.2.1,(a.2.2.1,(a.2.2.2.1,(a.2.2.2.2.1,(a.2.2.2.2.2.1,(a.2.2.2.2.2.2.1,(a.2.2.2.2.2.2.2.1,())))))))))))
def v8k (p:Prim):(List (W19w)×(LD×W43w))→Option ((List (W19w)×(LD×W43w))⊕(LD×(List (W19w)×(Nat×(Nat×W10w))))):=
 fun a=>let A:=a.2.2.2.2.2.2.2.1;let B:=a.2.2.2.2.2.1; opt.run _ (
 opt.ask _ (p.cmp .lss A a.2.2.2.2.2.2.1) (
 opt.need _ (p.rowOk B (p.nat A) [(CK.list 4)])<|
 opt.need _ (p.cmp .geq A (0:Int))<|
 opt.bnd ((LD×(List (W19w)×W43w))) _ (
 z5r (v7d p) (a.2.1,(a.1,(a.2.2.1,(a.2.2.2.1,(a.2.2.2.2.1,(B,(a.2.2.2.2.2.2.1,(A,((p.rdL B (p.nat A) 0),((p.ofNat (p.len (p.rdL B (p.nat A) 0))),((0:Int),())))))))))))) fun b=>
 opt.ret _ (Sum.inl (b.2.1,(b.1,(b.2.2.1,(b.2.2.2.1,(b.2.2.2.2.1,(b.2.2.2.2.2.1,(b.2.2.2.2.2.2.1,((p.ar .add .i64 b.2.2.2.2.2.2.2.1 (1:Int)),())))))))))) (
 opt.ret _ (Sum.inr (a.2.1,(a.1,(a.2.2.1,(a.2.2.2.1,(a.2.2.2.2.1,()))))))))
def G66:(p:Prim)→W10w→Option (W23w):=
 fun p x=>let E:=(0:Int);
 opt.bnd ((LD×(List (W19w)×(Nat×(Nat×W10w))))) _ (
 z5r (v8k p) ([],([],(0,(0,(x.1,(x.1,((p.ofNat (p.len x.1)),(E,()))))))))) fun a=>let B:=p.ofNat a.2.2.2.1;let A:=p.rep (p.nat B) [(D.int .u64 E),(D.int .u64 E)];let F:=p.eqN (p.nat B) (p.len A);
 opt.need _ (p.and (p.cmp .geq B E) (p.and (p.cmp .leq B B) (p.cmp .leq B (1000000:Int))))<|
 opt.need _ (p.eqN 0 0)<|
 opt.need _ F<|
 opt.need _ F<|
 opt.bnd (W23w) _ (
 z5r (v8j p) (a.1,(a.2.1,(A,(a.2.2.1,(a.2.2.2.1,(a.2.2.2.2.1,((p.ofNat (p.len a.2.2.2.2.1)),(E,()))))))))) fun b=>let C:=p.len b.2.2.1;
 opt.need _ (p.eqN 0 0)<|
 opt.need _ (p.eqN C C)<|
 opt.need _ (p.eqN C C)<|
 opt.ret _ b
theorem u9p:CtrOk PG u1t (G66 std):=okF vE (a:=an66) (l:=la66) (gC u9n (gN))
end Go.Am
end
noncomputable section
namespace Go.Am
def u1s:Ctr:=
 ⟨67,[.bptr 0 0],q14m,[(.ret,⟨[(0, .vec 4 4)],[q3m,q5m, .map,q2m,q5m],1⟩)]⟩
def la67:List LA:=
 [⟨67,[fF,tT,fF,tT,tT,tT],4,⟨⟨[(1, .bptr 4 0),(3, .bptr 5 0),(4, .vec 6 4),(11, .int .i64),(12, .int .i64)],[q3m,q5m, .map,q2m,q10m,q7m,q5m],56⟩,[((AX.exit 0),⟨[(4, .vec 4 4)],[q3m,q5m, .map,q2m,q5m],56⟩)]⟩⟩,
 ⟨131,[fF,tT],11,⟨⟨[(0, .yld 10),(2, .bptr 9 0),(9, .full 3 2),(10, .int .i64),(11, .int .i64)],[q3m,q5m, .map,q2m,q10m,q7m,q5m,q11m,q10m,q7m, .loop Go.LoopState.ready Option.none 67 [Bool.false,Bool.true,Bool.false,Bool.true,Bool.false,Bool.false,Bool.true,Bool.true,Bool.false,Bool.false,Bool.true,Bool.false,Bool.true,Bool.true,Bool.true] 56 [(16, .clo 131 [] [.bptr 8 0, .bptr 9 0]),(5, .bptr 7 0),(1, .bptr 4 0),(11, .int .i64),(12, .int .i64),(4, .vec 6 4),(3, .bptr 5 0)]],34⟩,[((AX.exit 0),⟨[],[q3m,q5m, .map,q2m,q10m,q7m,q5m,q11m,q10m,q7m, .loop Go.LoopState.ready Option.none 67 [Bool.false,Bool.true,Bool.false,Bool.true,Bool.false,Bool.false,Bool.true,Bool.true,Bool.false,Bool.false,Bool.true,Bool.false,Bool.true,Bool.true,Bool.true] 56 [(16, .clo 131 [] [.bptr 8 0, .bptr 9 0]),(5, .bptr 7 0),(1, .bptr 4 0),(11, .int .i64),(12, .int .i64),(4, .vec 6 4),(3, .bptr 5 0)]],34⟩)]⟩⟩]
def ja67:List JA:=
 [⟨67,[tT,fF,tT,fF,tT,fF,tT,fF,fF,tT,tT,fF,fF,tT,fF,tT,tT,tT],12,[(AX.normal,⟨[(1, .bptr 4 0),(3, .bptr 5 0),(4, .vec 6 4),(5, .bptr 7 0),(11, .int .i64),(12, .int .i64)],[q3m,q5m, .map,q2m,q10m,q7m,q5m,q11m,q10m,q7m, .dead,q7m],56⟩)]⟩,
 ⟨131,[fF,tT,tT,fF,fF,tT],11,[(AX.normal,⟨[(0, .yld 10),(2, .bptr 9 0),(9, .full 3 2),(10, .int .i64),(11, .int .i64)],[q3m,q5m, .map,q2m,q10m,q7m,q5m,q11m,q10m,q7m, .loop Go.LoopState.ready Option.none 67 [Bool.false,Bool.true,Bool.false,Bool.true,Bool.false,Bool.false,Bool.true,Bool.true,Bool.false,Bool.false,Bool.true,Bool.false,Bool.true,Bool.true,Bool.true] 56 [(16, .clo 131 [] [.bptr 8 0, .bptr 9 0]),(5, .bptr 7 0),(1, .bptr 4 0),(11, .int .i64),(12, .int .i64),(4, .vec 6 4),(3, .bptr 5 0)]],34⟩)]⟩,
 ⟨67,[tT,fF,tT,fF,tT,fF,fF,tT,tT,fF,fF,tT,fF,tT,tT,tT],12,[(AX.normal,⟨[(1, .bptr 4 0),(3, .bptr 5 0),(4, .vec 6 4),(5, .bptr 7 0),(11, .int .i64),(12, .int .i64)],[q3m,q5m, .map,q2m,q10m,q7m,q5m,q11m,q10m,q7m, .dead,q7m],56⟩)]⟩]
def u7z:List CF:=
 [⟨u4e,G75⟩,⟨u1r,G72⟩,⟨u0f,u5t⟩,⟨u4f,G74⟩]
def an67:Anns:=
 ⟨u7z,ja67,[]⟩
def v4j (p:Prim):W2w→Option (W2w⊕W41w):=
 fun a=>let K:=a.2.2.1;let V:=p.len K;let A:=p.eqN V V;let B:=a.2.2.2.2.2.2.2.2.2.2.2.2.2.2.1;let O:=a.2.2.2.2.2.2.2.2.2.1;let M:=a.2.2.2.2.2.2.2.2.2.2.1;let J:=p.add 0 (p.nat B);let A1:=p.rdI K J 0;let Z:=p.rdI K J 1;let N:=(a.2.2.2.2.2.2.2.2.2.2.2.1,(a.2.2.2.2.2.2.2.2.2.2.2.2.1,()));let C:=(O,(M,(A1,(Z,N))));let E:=p.eqN 0 0;let T:=a.2.2.2.1;let F:=p.eqN (p.len T) (p.len T);let P:=a.2.2.2.2.1;let Q:=a.2.2.2.2.2.1;let X:=a.2.2.2.2.2.2.1;let U:=a.2.2.2.2.2.2.2.1;let G:=(a.1,(a.2.1,(K,(T,(P,(Q,(X,(U,(B,C)))))))));let I:=a.2.2.2.2.2.2.2.2.1;let Y:=[ci,ci,(CK.list 1),ci];let A2:=p.cmp .geq B (0:Int); opt.run _ (
 opt.ask _ (p.cmp .lss B a.2.2.2.2.2.2.2.2.2.2.2.2.2.1) (
 opt.bnd (W2w) _ (
 opt.run (W2w) (
 opt.need _ (bif A2 then (p.cmp .lss B (p.ofNat V)) else Bool.false)<|
 opt.need _ (p.rowOk K J [(CK.int .u64),(CK.int .u64)])<|
 opt.bnd (W3w) _ (G74 p (O,(M,a.2.2.2.2.2.2.2.2.2.2.2.2.2.2))) fun b=>
 opt.ask _ (bif b.1 then Bool.false else Bool.true) (
 opt.bnd (W32w) _ (u5t p (A1,(Z,(O,(M,()))))) fun c=>
 opt.ask _ (bif (p.cmp .eql c.1 A1) then (bif (p.cmp .eql c.2.1 Z) then Bool.true else Bool.false) else Bool.false) (
 opt.bnd (W2w) _ (
 opt.run (W2w) (
 opt.ask _ (p.cmp .lss I (0:Int)) (
 opt.bnd (W2w) _ (
 opt.run (W2w) (
 opt.need _ E<|
 opt.need _ A<|
 opt.need _ A<|
 opt.need _ E<|
 opt.need _ F<|
 opt.ret _ G)) fun d=>let S:=p.len d.2.2.1;
 opt.need _ E<|
 opt.need _ (p.eqN S S)<|
 opt.need _ (p.eqN S S)<|
 opt.need _ E<|
 opt.need _ (p.eqN (p.len d.2.2.2.1) (p.len d.2.2.2.1))<|
 opt.ret _ d) (
 opt.need _ (bif A2 then (p.cmp .lss B (p.ofNat Q)) else Bool.false)<|
 opt.need _ (p.rowOk a.1 (p.add P (p.nat B)) Y)<|
 opt.need _ (bif (p.cmp .geq I (0:Int)) then (p.cmp .lss I (p.ofNat Q)) else Bool.false)<|
 opt.need _ (p.rowOk a.1 (p.add P (p.nat I)) Y)<|
 opt.bnd (W2w) _ (
 opt.run (W2w) (
 opt.ask _ (p.cmp .lss (p.rdI a.1 (p.add P (p.nat B)) 0) (p.rdI a.1 (p.add P (p.nat I)) 0)) (
 opt.need _ E<|
 opt.need _ A<|
 opt.need _ A<|
 opt.need _ E<|
 opt.need _ F<|
 opt.ret _ G) (
 opt.need _ E<|
 opt.need _ A<|
 opt.need _ A<|
 opt.need _ E<|
 opt.need _ F<|
 opt.ret _ (a.1,(a.2.1,(K,(T,(P,(Q,(X,(U,(I,C)))))))))))) fun e=>let R:=p.len e.2.2.1;
 opt.need _ E<|
 opt.need _ (p.eqN R R)<|
 opt.need _ (p.eqN R R)<|
 opt.need _ E<|
 opt.need _ (p.eqN (p.len e.2.2.2.1) (p.len e.2.2.2.1))<|
 opt.ret _ e))) fun f=>let L:=p.len f.2.2.1;
 opt.need _ E<|
 opt.need _ (p.eqN L L)<|
 opt.need _ (p.eqN L L)<|
 opt.need _ E<|
 opt.need _ (p.eqN (p.len T) (p.len f.2.2.2.1))<|
 opt.need _ E<|
 opt.need _ (p.eqN V L)<|
 opt.need _ (p.eqN V L)<|
 opt.ret _ (f.1,(f.2.1,(f.2.2.1,(f.2.2.2.1,(f.2.2.2.2.1,(f.2.2.2.2.2.1,(f.2.2.2.2.2.2.1,(f.2.2.2.2.2.2.2.1,(f.2.2.2.2.2.2.2.2.1,(f.2.2.2.2.2.2.2.2.2.1,(f.2.2.2.2.2.2.2.2.2.2.1,a.2.2.2.2.2.2.2.2.2.2.2)))))))))))) (
 opt.need _ E<|
 opt.need _ A<|
 opt.need _ A<|
 opt.need _ E<|
 opt.need _ F<|
 opt.need _ E<|
 opt.need _ A<|
 opt.need _ A<|
 opt.ret _ a)) (
 opt.need _ E<|
 opt.need _ A<|
 opt.need _ A<|
 opt.need _ E<|
 opt.need _ F<|
 opt.need _ E<|
 opt.need _ A<|
 opt.need _ A<|
 opt.ret _ a))) fun g=>let H:=p.eqN (p.len g.2.2.1) (p.len g.2.2.1);
 opt.need _ E<|
 opt.need _ H<|
 opt.need _ H<|
 opt.need _ E<|
 opt.need _ (p.eqN (p.len g.2.2.2.1) (p.len g.2.2.2.1))<|
 opt.need _ E<|
 opt.need _ H<|
 opt.need _ H<|
 opt.ret _ (Sum.inl (g.1,(g.2.1,(g.2.2.1,(g.2.2.2.1,(g.2.2.2.2.1,(g.2.2.2.2.2.1,(g.2.2.2.2.2.2.1,(g.2.2.2.2.2.2.2.1,(g.2.2.2.2.2.2.2.2.1,(g.2.2.2.2.2.2.2.2.2.1,(g.2.2.2.2.2.2.2.2.2.2.1,(g.2.2.2.2.2.2.2.2.2.2.2.1,(g.2.2.2.2.2.2.2.2.2.2.2.2.1,(g.2.2.2.2.2.2.2.2.2.2.2.2.2.1,((p.ar .add .i64 g.2.2.2.2.2.2.2.2.2.2.2.2.2.2.1 (1:Int)),()))))))))))))))))) (
 opt.need _ E<|
 opt.need _ A<|
 opt.need _ A<|
 opt.need _ E<|
 opt.need _ F<|
 opt.ret _ (Sum.inr (a.1,(a.2.1,(K,(T,(P,(Q,(X,(U,(I,(O,(M,N))))))))))))))
def v8h (p:Prim):W42w→Option (W42w⊕W20w):=
 fun a=>let L:=p.len a.2.2.1;let B:=p.eqN L L;let E:=p.len a.2.2.2.1;let F:=p.eqN 0 0;let J:=a.2.2.2.2.2.2.2.2.2.1;let K:=a.2.2.2.2.2.2.2.2.1; opt.run _ (
 opt.ask _ (p.cmp .lss J K) (
 opt.need _ F<|
 opt.need _ B<|
 opt.need _ B<|
 opt.need _ F<|
 opt.need _ (p.eqN E E)<|
 opt.need _ F<|
 opt.need _ B<|
 opt.need _ B<|
 opt.bnd (W41w) _ (
 z5r (v4j p) (a.1,(a.2.1,(a.2.2.1,(a.2.2.2.1,(a.2.2.2.2.1,(a.2.2.2.2.2.1,(a.2.2.2.2.2.2.1,(a.2.2.2.2.2.2.2.1,((-1:Int),(a.2.2.2.2.2.2.1,(a.2.2.2.2.2.2.2.1,(K,(J,((p.ofNat L),((0:Int),())))))))))))))))) fun b=>let G:=b.2.2.2.2.2.2.2.2.1;let C:=p.add b.2.2.2.2.1 (p.nat G);let I:=p.len b.2.2.1;
 opt.bnd (W32w) _ (G72 p (b.2.2.2.2.2.2.1,(b.2.2.2.2.2.2.2.1,(G,())))) fun c=>
 opt.need _ (bif (p.cmp .geq G (0:Int)) then (p.cmp .lss G (p.ofNat b.2.2.2.2.2.1)) else Bool.false)<|
 opt.need _ (p.rowOk b.1 C [ci,ci,(CK.list 1),ci])<|
 opt.bnd (W25w) _ (G75 p ((p.rdI b.1 C 0),((p.rdI b.1 C 1),((p.rdL b.1 C 2),((p.rdI b.1 C 3),()))))) fun d=>let A:=[[(D.int .i64 d.1),(D.int .i64 d.2.1),(D.list Bool.false 1 d.2.2.1),(D.int .i64 d.2.2.2.1)]];let H:=p.app (p.cut b.2.2.2.1 0 E) (p.cut A 0 1);
 opt.need _ (p.and (p.leN (p.add 0 1) (p.len A)) (p.and (p.leN (p.add 0 E) (p.len b.2.2.2.1)) (p.and (p.leN 1 1) (p.leN (p.add E 1) 1000000))))<|
 opt.need _ F<|
 opt.need _ (p.eqN I I)<|
 opt.need _ (p.eqN I I)<|
 opt.need _ F<|
 opt.need _ (p.eqN (p.add E 1) (p.len H))<|
 opt.ret _ (Sum.inl (b.1,(b.2.1,(b.2.2.1,(H,(b.2.2.2.2.1,(b.2.2.2.2.2.1,(c.1,(c.2.1,(K,((p.ar .add .i64 J (1:Int)),())))))))))))) (
 opt.need _ F<|
 opt.need _ B<|
 opt.need _ B<|
 opt.need _ F<|
 opt.need _ (p.eqN E E)<|
 opt.ret _ (Sum.inr (a.1,(a.2.1,(a.2.2.1,(a.2.2.2.1,(a.2.2.2.2.1,(a.2.2.2.2.2.1,())))))))))
def G67:(p:Prim)→W23w→Option (W20w):=
 fun p x=>let A:=p.len x.2.2.1;
 opt.need _ (p.eqN 0 0)<|
 opt.need _ (p.eqN A A)<|
 opt.need _ (p.eqN A A)<|
 opt.bnd (W20w) _ (
 z5r (v8h p) (x.1,(x.2.1,(x.2.2.1,([],(x.2.2.2.1,(x.2.2.2.2.1,((0:Int),((0:Int),((p.ofNat x.2.2.2.2.1),((0:Int),()))))))))))) fun a=>let B:=p.len a.2.2.1;
 opt.need _ (p.eqN 0 0)<|
 opt.need _ (p.eqN B B)<|
 opt.need _ (p.eqN B B)<|
 opt.need _ (p.eqN 0 0)<|
 opt.need _ (p.eqN (p.len a.2.2.2.1) (p.len a.2.2.2.1))<|
 opt.ret _ a
theorem u9o:CtrOk PG u1s (G67 std):=okF vD (a:=an67) (l:=la67) (gC ok75 (gC u9n (gC u6q (gC ok74 (gN)))))
def u4n:Ctr:=
 ⟨29,[.list 4],[],[(.ret,⟨[(0, .tuple [.vec 0 4, .int .i64])],[q5m],1⟩)]⟩
def la29:List LA:=
 []
def ja29:List JA:=
 []
def u8l:List CF:=
 [⟨u1s,G67⟩,⟨u1t,G66⟩,⟨w8g,F19⟩]
def an29:Anns:=
 ⟨u8l,ja29,[]⟩
def G29:(p:Prim)→W10w→Option (W34w):=
 fun p x=>
 opt.bnd (W0w) _ (G19 p x) fun a=>
 opt.ask _ (p.cmp .neq a.1 (0:Int)) (
 opt.ret _ ([],a)) (
 opt.bnd (W23w) _ (G66 p ([[(D.list Bool.false 4 x.1)]],())) fun b=>let A:=p.len b.2.2.1;
 opt.need _ (p.eqN 0 0)<|
 opt.need _ (p.eqN A A)<|
 opt.need _ (p.eqN A A)<|
 opt.bnd (W20w) _ (G67 p b) fun c=>
 opt.need _ (p.eqN 0 0)<|
 opt.need _ (p.eqN (p.len c.2.2.2.1) (p.len c.2.2.2.1))<|
 opt.ret _ (c.2.2.2.1,((0:Int),())))
theorem ok29:CtrOk PG u4n (G29 std):=okF vD (a:=an29) (l:=la29) (gC u9o (gC u9p (gC v2d (gN))))
end Go.Am
end
noncomputable section
namespace Go.Am
def u4b:Ctr:=
 ⟨79,[.list 4],[],[(.ret,⟨[(0, .map 0)],[.map],1⟩)]⟩
def la79:List LA:=
 [⟨79,[fF,tT,fF,tT,tT],0,⟨⟨[(3, .map 0),(7, .list 4),(8, .int .i64),(9, .int .i64)],[.map],19⟩,[((AX.exit 0),⟨[(3, .map 0)],[.map],19⟩)]⟩⟩]
def ja79:List JA:=
 [⟨79,[fF,tT,tT,fF,fF,tT,fF,tT,tT],0,[(AX.normal,⟨[(3, .map 0),(7, .list 4),(8, .int .i64),(9, .int .i64)],[.map],19⟩)]⟩]
def u7s:List CF:=
 []
def an79:Anns:=
 ⟨u7s,ja79,[]⟩
def v8f (p:Prim):W26w→Option (W26w⊕W7w):=
 fun a=>let C:=p.nat a.2.2.2.1;let A:=D.int .i64 (p.rdI a.2.1 C 0);let B:=D.agg [A,(D.int .i64 (p.rdI a.2.1 C 1)),(D.list (p.rdF a.2.1 C 2 1) 1 (p.rdL a.2.1 C 2)),(D.int .i64 (p.rdI a.2.1 C 3))];let E:=[ci,ci,(CK.list 1),ci]; opt.run _ (
 opt.ask _ (p.cmp .lss a.2.2.2.1 a.2.2.1) (
 opt.bnd (W26w) _ (
 opt.run (W26w) (
 opt.need _ (p.rowOk a.2.1 C E)<|
 opt.need _ (p.cmp .geq a.2.2.2.1 (0:Int))<|
 opt.need _ (p.mOk a.1 [SK.i] Bool.false A Bool.true E)<|
 opt.ask _ (p.mhas a.1 [SK.i] Bool.false A) (
 opt.ret _ ((p.mset a.1 (p.nat (p.ofNat (p.mpos a.1 [SK.i] Bool.false A))) A B),a.2)) (
 opt.ret _ ((p.madd a.1 A B),a.2)))) fun b=>
 opt.ret _ (Sum.inl (b.1,(b.2.1,(b.2.2.1,((p.ar .add .i64 b.2.2.2.1 (1:Int)),())))))) (
 opt.ret _ (Sum.inr (a.1,()))))
def G79:(p:Prim)→W10w→Option (W7w):=
 fun p x=>
 opt.bnd (W7w) _ (
 z5r (v8f p) ([],(x.1,((p.ofNat (p.len x.1)),((0:Int),()))))) fun a=>
 opt.ret _ a
theorem ok79:CtrOk PG u4b (G79 std):=okF vE (a:=an79) (l:=la79) (gN)
def u0g:Ctr:=
 ⟨118,[.list 1, .list 1],[],[(.ret,⟨[(0, .bool)],[],1⟩)]⟩
def u7b:List LA:=
 [⟨118,[fF,tT,fF,tT,tT],0,⟨⟨[(0, .list 1),(1, .list 1),(12, .int .i64),(13, .int .i64)],[],26⟩,[(AX.ret,⟨[(4, .bool)],[],26⟩),((AX.exit 0),⟨[],[],26⟩)]⟩⟩]
def u7l:List JA:=
 []
def u3v:List CF:=
 []
def u9b:Anns:=
 ⟨u3v,u7l,[]⟩
def v4z (p:Prim):W33w→Option (W33w⊕(W3w⊕Unit)):=
 fun a=>let A:=a.2.2.2.1;let B:=p.cmp .geq A (0:Int);let C:=p.nat A; opt.run _ (
 opt.ask _ (p.cmp .lss A a.2.2.1) (
 opt.need _ (p.rowOk a.1 C [ci])<|
 opt.need _ B<|
 opt.need _ (p.rowOk a.2.1 C [ci])<|
 opt.need _ B<|
 opt.ask _ (p.cmp .neq (p.rdI a.1 C 0) (p.rdI a.2.1 C 0)) (
 opt.ret _ (Sum.inr (Sum.inl (Bool.false,())))) (
 opt.ret _ (Sum.inl (a.1,(a.2.1,(a.2.2.1,((p.ar .add .i64 A (1:Int)),()))))))) (
 opt.ret _ (Sum.inr (Sum.inr ()))))
def u2v:(p:Prim)→W22w→Option (W3w):=
 fun p x=>
 opt.ask _ (p.cmp .neq (p.ofNat (p.len x.1)) (p.ofNat (p.len x.2.1))) (
 opt.ret _ (Bool.false,())) (
 opt.alt (W3w) (Unit) _ (
 z5r (v4z p) (x.1,(x.2.1,((p.ofNat (p.len x.1)),((0:Int),()))))) (fun a=>
 opt.ret _ a) (fun b=>
 opt.bnd (Unit) _ (some b) fun c=>
 opt.ret _ (Bool.true,())))
theorem u6r:CtrOk PG u0g (u2v std):=okF vE (a:=u9b) (l:=u7b) (gN)
def u1p:Ctr:=
 ⟨80,[.agg [.int .i64, .int .i64, .list 1, .int .i64], .agg [.int .i64, .int .i64, .list 1, .int .i64]],[],[(.ret,⟨[(0, .bool)],[],1⟩)]⟩
def la80:List LA:=
 []
def ja80:List JA:=
 [⟨80,[fF,tT],0,[(AX.normal,⟨[(4, .bool)],[],31⟩)]⟩]
def u7r:List CF:=
 [⟨u0g,u2v⟩]
def an80:Anns:=
 ⟨u7r,ja80,[]⟩
def G80:(p:Prim)→W37w→Option (W3w):=
 fun p x=>
 opt.bnd (W3w) _ (
 opt.run (W3w) (
 opt.ask _ (p.cmp .eql x.1 x.2.2.2.2.1) (
 opt.ask _ (p.cmp .eql x.2.1 x.2.2.2.2.2.1) (
 opt.ask _ (p.cmp .eql x.2.2.2.1 x.2.2.2.2.2.2.2.1) (
 opt.bnd (W3w) _ (u2v p (x.2.2.1,(x.2.2.2.2.2.2.1,()))) fun a=>
 opt.ret _ a) (
 opt.ret _ (Bool.false,()))) (
 opt.ret _ (Bool.false,()))) (
 opt.ret _ (Bool.false,())))) fun b=>
 opt.ret _ b
theorem u9l:CtrOk PG u1p (G80 std):=okF vE (a:=an80) (l:=la80) (gC u6r (gN))
def u4a:Ctr:=
 ⟨81,[.list 4, .list 4, .clo 80 [] []],[],[(.ret,⟨[(0, .bool)],[],1⟩)]⟩
def la81:List LA:=
 [⟨81,[fF,tT,fF,tT,tT],0,⟨⟨[(1, .list 4),(2, .clo 80 [] []),(15, .list 4),(16, .int .i64),(17, .int .i64)],[],32⟩,[(AX.ret,⟨[(6, .bool)],[],32⟩),((AX.exit 0),⟨[],[],32⟩)]⟩⟩]
def ja81:List JA:=
 []
def u7q:List CF:=
 [⟨u1p,G80⟩]
def an81:Anns:=
 ⟨u7q,ja81,[]⟩
def v7b (p:Prim):W33w→Option (W33w⊕(W3w⊕Unit)):=
 fun a=>let E:=a.2.2.2.1;let A:=p.nat E;let B:=p.cmp .geq E (0:Int);let C:=[ci,ci,(CK.list 1),ci]; opt.run _ (
 opt.ask _ (p.cmp .lss E a.2.2.1) (
 opt.need _ (p.rowOk a.2.1 A C)<|
 opt.need _ B<|
 opt.need _ (p.rowOk a.1 A C)<|
 opt.need _ B<|
 opt.bnd (W3w) _ (G80 p ((p.rdI a.2.1 A 0),((p.rdI a.2.1 A 1),((p.rdL a.2.1 A 2),((p.rdI a.2.1 A 3),((p.rdI a.1 A 0),((p.rdI a.1 A 1),((p.rdL a.1 A 2),((p.rdI a.1 A 3),()))))))))) fun b=>
 opt.ask _ (bif b.1 then Bool.false else Bool.true) (
 opt.ret _ (Sum.inr (Sum.inl (Bool.false,())))) (
 opt.ret _ (Sum.inl (a.1,(a.2.1,(a.2.2.1,((p.ar .add .i64 E (1:Int)),()))))))) (
 opt.ret _ (Sum.inr (Sum.inr ()))))
def G81:(p:Prim)→W22w→Option (W3w):=
 fun p x=>
 opt.ask _ (p.cmp .neq (p.ofNat (p.len x.1)) (p.ofNat (p.len x.2.1))) (
 opt.ret _ (Bool.false,())) (
 opt.alt (W3w) (Unit) _ (
 z5r (v7b p) (x.2.1,(x.1,((p.ofNat (p.len x.1)),((0:Int),()))))) (fun a=>
 opt.ret _ a) (fun b=>
 opt.bnd (Unit) _ (some b) fun c=>
 opt.ret _ (Bool.true,())))
theorem ok81:CtrOk PG u4a (G81 std):=okF vE (a:=an81) (l:=la81) (gC u9l (gN))
end Go.Am
end
noncomputable section
namespace Go.Am
def u4k:Ctr:=
 ⟨35,[.list 4, .list 4],[],[(.ret,⟨[(0, .int .i64)],[],1⟩)]⟩
def la35:List LA:=
 [⟨35,[fF,tT,fF,tT,tT,tT],0,⟨⟨[(0, .list 4),(1, .list 4),(6, .map 0),(19, .list 4),(20, .int .i64),(21, .int .i64)],[.map],57⟩,[(AX.ret,⟨[(4, .int .i64)],[],57⟩),((AX.exit 0),⟨[(0, .list 4),(1, .list 4),(6, .map 0)],[.map],57⟩)]⟩⟩]
def ja35:List JA:=
 [⟨35,[fF,tT,tT,fF,fF,tT,fF,tT,tT,tT],0,[(AX.ret,⟨[(4, .int .i64)],[],57⟩),(AX.normal,⟨[(0, .list 4),(1, .list 4),(6, .map 0),(19, .list 4),(20, .int .i64),(21, .int .i64)],[.map],57⟩)]⟩]
def u8i:List CF:=
 [⟨u1s,G67⟩,⟨u1t,G66⟩,⟨u4b,G79⟩,⟨u4a,G81⟩,⟨u1p,G80⟩,⟨u4c,G78⟩]
def an35:Anns:=
 ⟨u8i,ja35,[]⟩
def v59 (p:Prim):W27w→Option (W27w⊕(W0w⊕(List (W19w)×W22w))):=
 fun a=>let E:=a.2.2.2.1;let I:=a.2.2.2.2.2.1;let B:=p.nat I;let A:=D.int .i64 (p.rdI E B 0);let G:=[SK.i];let H:=[ci,ci,(CK.list 1),ci];let C:=p.mOk a.1 G Bool.false A Bool.true H;let F:=p.mhas a.1 G Bool.false A; opt.run _ (
 opt.ask _ (p.cmp .lss I a.2.2.2.2.1) (
 opt.alt (W0w) (W27w) _ (
 opt.run ((W0w⊕W27w)) (
 opt.need _ (p.rowOk E B H)<|
 opt.need _ (p.cmp .geq I (0:Int))<|
 opt.need _ C<|
 opt.ask _ F (
 opt.bnd (W3w) _ (G80 p ((p.mI a.1 G Bool.false A 0),((p.mI a.1 G Bool.false A 1),((p.mL a.1 G Bool.false A 2),((p.mI a.1 G Bool.false A 3),((p.rdI E B 0),((p.rdI E B 1),((p.rdL E B 2),((p.rdI E B 3),()))))))))) fun b=>
 opt.ask _ (bif b.1 then Bool.false else Bool.true) (
 opt.ret _ (Sum.inl ((15:Int),()))) (
 opt.need _ C<|
 opt.ask _ F (
 opt.ret _ (Sum.inr ((p.mdel a.1 (p.nat (p.ofNat (p.mpos a.1 G Bool.false A)))),a.2))) (
 opt.ret _ (Sum.inr a)))) (
 opt.ret _ (Sum.inl ((15:Int),()))))) (fun c=>
 opt.ret _ (Sum.inr (Sum.inl c))) (fun d=>
 opt.bnd (W27w) _ (some d) fun e=>
 opt.ret _ (Sum.inl (e.1,(e.2.1,(e.2.2.1,(e.2.2.2.1,(e.2.2.2.2.1,((p.ar .add .i64 e.2.2.2.2.2.1 (1:Int)),()))))))))) (
 opt.ret _ (Sum.inr (Sum.inr (a.1,(a.2.1,(a.2.2.1,())))))))
def G35:(p:Prim)→W22w→Option (W0w):=
 fun p x=>let F:=(0:Int);
 opt.bnd (W0w) _ (G78 p x) fun a=>
 opt.ask _ (p.cmp .neq a.1 F) (
 opt.ret _ a) (
 opt.bnd (W7w) _ (G79 p x.2) fun b=>
 opt.alt (W0w) ((List (W19w)×W22w)) _ (
 z5r (v59 p) (b.1,(x.1,(x.2.1,(x.1,((p.ofNat (p.len x.1)),(F,()))))))) (fun c=>
 opt.ret _ c) (fun d=>
 opt.bnd ((List (W19w)×W22w)) _ (some d) fun e=>
 opt.ask _ (p.cmp .gtr (p.ofNat (p.mlen e.1)) F) (
 opt.ret _ ((15:Int),())) (
 opt.bnd (W23w) _ (G66 p ([[(D.list Bool.false 4 e.2.1)]],())) fun f=>let B:=p.len f.2.2.1;
 opt.need _ (p.eqN 0 0)<|
 opt.need _ (p.eqN B B)<|
 opt.need _ (p.eqN B B)<|
 opt.bnd (W20w) _ (G67 p f) fun g=>let E:=p.len g.2.2.2.1;
 opt.bnd (W23w) _ (G66 p ([[(D.list Bool.false 4 e.2.2.1)]],())) fun h=>let A:=p.len h.2.2.1;
 opt.need _ (p.eqN 0 0)<|
 opt.need _ (p.eqN A A)<|
 opt.need _ (p.eqN A A)<|
 opt.bnd (W20w) _ (G67 p h) fun i=>let C:=p.len i.2.2.2.1;
 opt.need _ (p.and (p.leN (p.add 0 E) E) (p.and (p.leN (p.add 0 C) C) (p.and (p.and Bool.true Bool.true) Bool.true)))<|
 opt.bnd (W3w) _ (G81 p ((p.cut g.2.2.2.1 0 E),((p.cut i.2.2.2.1 0 C),()))) fun j=>
 opt.ask _ (bif j.1 then Bool.false else Bool.true) (
 opt.ret _ ((24:Int),())) (
 opt.ret _ (F,())))))
theorem ok35:CtrOk PG u4k (G35 std):=okF vD (a:=an35) (l:=la35) (gC u9o (gC u9p (gC ok79 (gC ok81 (gC u9l (gC ok78 (gN)))))))
end Go.Am
end
noncomputable section
namespace Go.Am
def v4v:Ctr:=
 ⟨57,[.list 1],[],[(.ret,⟨[(0, .lst 1)],[],1⟩)]⟩
def u2k:(p:Prim)→W10w→Option (W10w):=
 fun p x=>let A:=p.ofNat (p.len x.1);let C:=p.nat A;let B:=p.rep C [(D.int .i64 (0:Int))];let E:=p.eqN C (p.len (p.splice B 0 x.1));
 opt.need _ (p.and (p.cmp .geq A (0:Int)) (p.and (p.cmp .leq A A) (p.cmp .leq A (1000000:Int))))<|
 opt.need _ (p.and Bool.true (p.and (p.leN (p.len x.1) C) (p.leN (p.add 0 C) (p.len B))))<|
 opt.need _ (p.eqN 0 0)<|
 opt.need _ E<|
 opt.need _ E<|
 opt.bnd (W10w) _ (w6a p ((p.splice B 0 x.1),())) fun a=>
 opt.bnd ((LD×(Nat×(Nat×(Nat×Unit))))) _ (w2z p (a.1,(0,(C,(C,()))))) fun b=>
 opt.need _ (p.leN (p.add b.2.1 b.2.2.1) (p.len b.1))<|
 opt.need _ (p.eqN b.2.2.1 b.2.2.2.1)<|
 opt.ret _ ((p.cut b.1 b.2.1 b.2.2.1),())
def u9u:Prim→Tup (v4v).scs→Option (STup (scss (v4v).outs)):=
 fun p x=>u2k p x
theorem u8r (p:Prim) (x:Tup (v4v).scs):bodyRun opt p (autoEnvE [] PG) (mkOrc opt p (autoEnvE [] PG) 400 (an57) la57) 400 v4v x=u2k p x:=by kernel_rfl
theorem v8a:z42 PG 57:=enters_auto (b:=_) rfl (by kernel_rfl)
theorem u6j:CtrOk PG v4v (u9u std):=ctr_of_body (autoEnvE_ok follows_mixed) (mkOrc_ok (autoEnvE_ok follows_mixed) u7o _) v8a (fun x=>u8r std x)
end Go.Am
end
noncomputable section
namespace Go.Am
def u4o:Ctr:=
 ⟨27,[.list 4],[],[(.ret,⟨[(0, .tuple [.vec 0 1, .int .i64])],[q9m],1⟩)]⟩
def la27:List LA:=
 [⟨27,[fF,tT,fF,tT,tT,tT,tT],0,⟨⟨[(5, .map 0),(6, .vec 1 1),(20, .list 4),(21, .int .i64),(22, .int .i64)],[.map,q9m],72⟩,[((AX.exit 0),⟨[(6, .vec 0 1)],[q9m],72⟩)]⟩⟩,
 ⟨27,[fF,tT,fF,tT,tT,fF,fF,tT,tT,fF,fF,tT,fF,tT,tT,tT,tT],0,⟨⟨[(5, .map 0),(6, .vec 1 1),(8, .bptr 2 0),(9, .int .i64),(20, .list 4),(21, .int .i64),(22, .int .i64),(27, .list 1),(28, .int .i64),(29, .int .i64)],q16m,72⟩,[((AX.exit 2),⟨[(5, .map 0),(6, .vec 1 1),(8, .bptr 2 0),(9, .int .i64),(20, .list 4),(21, .int .i64),(22, .int .i64)],q16m,72⟩)]⟩⟩,
 ⟨27,[fF,tT,tT,tT,tT,tT,tT,fF,fF,tT,tT,fF,fF,tT,fF,tT,tT,tT,tT],0,⟨⟨[(5, .map 0),(6, .vec 1 1),(9, .int .i64),(20, .list 4),(21, .int .i64),(22, .int .i64),(59, .list 1),(60, .int .i64),(61, .int .i64)],[.map,q9m],72⟩,[((AX.exit 4),⟨[(5, .map 0),(6, .vec 1 1),(20, .list 4),(21, .int .i64),(22, .int .i64)],[.map,q9m],72⟩)]⟩⟩]
def ja27:List JA:=
 [⟨27,[fF,tT,tT,fF,fF,tT,tT,tT,tT,tT,tT,fF,fF,tT,tT,fF,fF,tT,fF,tT,tT,tT,tT],0,[(AX.normal,⟨[(5, .map 0),(6, .vec 1 1),(9, .int .i64),(20, .list 4),(21, .int .i64),(22, .int .i64),(59, .list 1),(60, .int .i64),(61, .int .i64)],[.map,q9m],72⟩)]⟩,
 ⟨27,[tT,fF,tT,tT,tT,fF,fF,tT,tT,fF,fF,tT,fF,tT,tT,tT,tT],0,[(AX.normal,⟨[(5, .map 0),(6, .vec 1 1),(8, .bptr 2 0),(9, .int .i64),(20, .list 4),(21, .int .i64),(22, .int .i64)],q16m,72⟩)]⟩,
 ⟨27,[fF,tT,tT,fF,fF,tT,fF,tT,tT,fF,fF,tT,tT,fF,fF,tT,fF,tT,tT,tT,tT],0,[(AX.normal,⟨[(5, .map 0),(6, .vec 1 1),(8, .bptr 2 0),(9, .int .i64),(20, .list 4),(21, .int .i64),(22, .int .i64),(27, .list 1),(28, .int .i64),(29, .int .i64)],q16m,72⟩)]⟩]
def u8m:List CF:=
 [⟨v4v,u9u⟩,⟨w8g,F19⟩]
def an27:Anns:=
 ⟨u8m,ja27,[]⟩
def v7f (p:Prim):W31w→Option (W31w⊕W15w):=
 fun a=>let C:=a.2.2.2.2.2.2.2.2.1;let A:=D.int .i64 (p.rdI a.2.2.2.2.2.2.1 (p.nat C) 0);let B:=p.eqN (p.len a.2.1) (p.len a.2.1);let E:=D.int .i64 (p.ar .add .i64 a.2.2.1 (1:Int));let F:=p.eqN 0 0; opt.run _ (
 opt.ask _ (p.cmp .lss C a.2.2.2.2.2.2.2.1) (
 opt.bnd (W31w) _ (
 opt.run (W31w) (
 opt.need _ (p.rowOk a.2.2.2.2.2.2.1 (p.nat C) [ci])<|
 opt.need _ (p.cmp .geq C (0:Int))<|
 opt.need _ (p.mOk a.1 [SK.i] Bool.false A Bool.false [ci])<|
 opt.ask _ (p.mhas a.1 [SK.i] Bool.false A) (
 opt.need _ F<|
 opt.need _ B<|
 opt.ret _ ((p.mset a.1 (p.nat (p.ofNat (p.mpos a.1 [SK.i] Bool.false A))) A E),a.2)) (
 opt.need _ F<|
 opt.need _ B<|
 opt.ret _ ((p.madd a.1 A E),a.2)))) fun b=>
 opt.need _ F<|
 opt.need _ (p.eqN (p.len b.2.1) (p.len b.2.1))<|
 opt.ret _ (Sum.inl (b.1,(b.2.1,(b.2.2.1,(b.2.2.2.1,(b.2.2.2.2.1,(b.2.2.2.2.2.1,(b.2.2.2.2.2.2.1,(b.2.2.2.2.2.2.2.1,((p.ar .add .i64 b.2.2.2.2.2.2.2.2.1 (1:Int)),()))))))))))) (
 opt.need _ F<|
 opt.need _ B<|
 opt.ret _ (Sum.inr (a.1,(a.2.1,(a.2.2.2.1,(a.2.2.2.2.1,(a.2.2.2.2.2.1,()))))))))
def v7g (p:Prim):W17w→Option (W17w⊕W28w):=
 fun a=>let H:=a.2.2.2.2.2.2.2.2.2.2.1;let B:=a.2.2.2.2.2.2.2.2.2.2.2.2.1;let A:=D.int .i64 (p.rdI H (p.nat B) 0);let C:=p.eqN (p.len a.2.1) (p.len a.2.1);let E:=p.eqN 0 0;let F:=a.2.2.2.2.2.2.1;let G:=a.2.2.2.2.2.1; opt.run _ (
 opt.ask _ (p.cmp .lss B a.2.2.2.2.2.2.2.2.2.2.2.1) (
 opt.bnd (W17w) _ (
 opt.run (W17w) (
 opt.need _ (p.rowOk H (p.nat B) [ci])<|
 opt.need _ (p.cmp .geq B (0:Int))<|
 opt.need _ (p.mOk a.1 [SK.i] Bool.false A Bool.false [ci])<|
 opt.ask _ (p.mhas a.1 [SK.i] Bool.false A) (
 opt.need _ E<|
 opt.need _ C<|
 opt.ret _ (a.1,(a.2.1,(a.2.2.1,(a.2.2.2.1,(a.2.2.2.2.1,(G,((p.mm .gtr F (p.mI a.1 [SK.i] Bool.false A 0)),a.2.2.2.2.2.2.2)))))))) (
 opt.need _ E<|
 opt.need _ C<|
 opt.ret _ (a.1,(a.2.1,(a.2.2.1,(a.2.2.2.1,(a.2.2.2.2.1,(G,((p.mm .gtr F (0:Int)),a.2.2.2.2.2.2.2)))))))))) fun b=>
 opt.need _ E<|
 opt.need _ (p.eqN (p.len b.2.1) (p.len b.2.1))<|
 opt.ret _ (Sum.inl (b.1,(b.2.1,(b.2.2.1,(b.2.2.2.1,(b.2.2.2.2.1,(b.2.2.2.2.2.1,(b.2.2.2.2.2.2.1,(b.2.2.2.2.2.2.2.1,(b.2.2.2.2.2.2.2.2.1,(b.2.2.2.2.2.2.2.2.2.1,(b.2.2.2.2.2.2.2.2.2.2.1,(b.2.2.2.2.2.2.2.2.2.2.2.1,((p.ar .add .i64 b.2.2.2.2.2.2.2.2.2.2.2.2.1 (1:Int)),()))))))))))))))) (
 opt.need _ E<|
 opt.need _ C<|
 opt.ret _ (Sum.inr (a.1,(a.2.1,(a.2.2.1,(a.2.2.2.1,(a.2.2.2.2.1,(G,(F,(a.2.2.2.2.2.2.2.1,(a.2.2.2.2.2.2.2.2.1,(a.2.2.2.2.2.2.2.2.2.1,())))))))))))))
def v7h (p:Prim):W15w→Option (W15w⊕W10w):=
 fun a=>let M:=(0:Int);let N:=a.2.2.2.2.1;let C:=p.nat N;let O:=[[(D.list Bool.true 0 [])]];let G:=p.eqN 0 0;let J:=a.2.2.1;let K:=p.len a.2.1;let Q:=p.rdL J C 2; opt.run _ (
 opt.ask _ (p.cmp .lss N a.2.2.2.1) (
 opt.need _ (p.rowOk J C [ci,ci,(CK.list 1),ci])<|
 opt.need _ (p.cmp .geq N M)<|
 opt.need _ G<|
 opt.need _ (p.eqN K K)<|
 opt.bnd (W28w) _ (
 z5r (v7g p) (a.1,(a.2.1,((p.rdI J C 0),((p.rdI J C 1),(Q,((p.rdI J C 3),(M,(J,(a.2.2.2.1,(N,(Q,((p.ofNat (p.len Q)),(M,())))))))))))))) fun b=>let E:=p.len b.2.1;let F:=p.app (p.cut b.2.1 0 E) (p.cut O 0 1);
 opt.bnd (W28w) _ (
 opt.run (W28w) (
 opt.ask _ (p.cmp .eql b.2.2.2.2.2.2.1 (p.ofNat E)) (
 opt.need _ (p.and (p.leN (p.add 0 1) (p.len O)) (p.and (p.leN (p.add 0 E) E) (p.and (p.leN 1 1) (p.leN (p.add E 1) 1000000))))<|
 opt.need _ G<|
 opt.need _ (p.eqN (p.add E 1) (p.len F))<|
 opt.ret _ (b.1,(F,b.2.2))) (
 opt.need _ G<|
 opt.need _ (p.eqN E E)<|
 opt.ret _ b))) fun c=>let I:=c.2.2.2.2.2.2.1;let A:=p.add 0 (p.nat I);let B:=bif (p.cmp .geq I M) then (p.cmp .lss I (p.ofNat (p.len c.2.1))) else Bool.false;let L:=p.rowOk c.2.1 A [(CK.list 1)];let P:=[[(D.int .i64 c.2.2.1)]];
 opt.need _ B<|
 opt.need _ L<|
 opt.ask _ (p.rdF c.2.1 A 0 1) (
 opt.need _ (p.and (p.leN (p.add 0 1) (p.len P)) (p.and (p.leN 1 1) (p.leN (p.add (p.len (p.rdL c.2.1 A 0)) 1) 1000000)))<|
 opt.bnd (W10w) _ (u2k p ((p.app (p.rdL c.2.1 A 0) (p.cut P 0 1)),())) fun d=>let H:=p.set c.2.1 A [(D.list Bool.true 1 d.1)];
 opt.need _ B<|
 opt.need _ L<|
 opt.need _ G<|
 opt.need _ (p.eqN (p.len c.2.1) (p.len H))<|
 opt.bnd (W15w) _ (
 z5r (v7f p) (c.1,(H,(I,(c.2.2.2.2.2.2.2.1,(c.2.2.2.2.2.2.2.2.1,(c.2.2.2.2.2.2.2.2.2.1,(c.2.2.2.2.1,((p.ofNat (p.len c.2.2.2.2.1)),(M,())))))))))) fun e=>
 opt.need _ G<|
 opt.need _ (p.eqN (p.len e.2.1) (p.len e.2.1))<|
 opt.ret _ (Sum.inl (e.1,(e.2.1,(e.2.2.1,(e.2.2.2.1,((p.ar .add .i64 e.2.2.2.2.1 (1:Int)),()))))))) (
 opt.no _ 41)) (
 opt.need _ G<|
 opt.need _ (p.eqN K K)<|
 opt.ret _ (Sum.inr (a.2.1,()))))
def G27:(p:Prim)→W10w→Option (W34w):=
 fun p x=>
 opt.bnd (W0w) _ (G19 p x) fun a=>
 opt.ask _ (p.cmp .neq a.1 (0:Int)) (
 opt.ret _ ([],a)) (
 opt.bnd (W10w) _ (
 z5r (v7h p) ([],([],(x.1,((p.ofNat (p.len x.1)),((0:Int),())))))) fun b=>
 opt.need _ (p.eqN 0 0)<|
 opt.need _ (p.eqN (p.len b.1) (p.len b.1))<|
 opt.ret _ (b.1,((0:Int),())))
theorem ok27:CtrOk PG u4o (G27 std):=okF vE1000003 (a:=an27) (l:=la27) (gC u6j (gC v2d (gN)))
end Go.Am
end
noncomputable section
namespace Go.Am
def u4j:Ctr:=
 ⟨36,[.list 4, .list 4],[],[(.ret,⟨[(0, .int .i64)],[],1⟩)]⟩
def la36:List LA:=
 [⟨36,[fF,tT,fF,tT,tT,tT],0,⟨⟨[(0, .list 4),(1, .list 4),(5, .int .i64)],[],85⟩,[(AX.ret,⟨[(4, .int .i64)],[],85⟩),((AX.exit 0),⟨[(0, .list 4),(1, .list 4)],[],85⟩)]⟩⟩,
 ⟨36,[fF,tT,fF,tT,tT,tT,tT],0,⟨⟨[(0, .list 4),(1, .list 4),(7, .int .i64)],[],85⟩,[(AX.ret,⟨[(4, .int .i64)],[],85⟩),((AX.exit 2),⟨[],[],85⟩)]⟩⟩,
 ⟨36,[fF,tT,fF,fF,tT,fF,fF,tT,fF,tT,tT,tT,tT],0,⟨⟨[(0, .list 4),(1, .list 4),(7, .int .i64),(8, .int .i64)],[],85⟩,[(AX.ret,⟨[(4, .int .i64)],[],85⟩),((AX.exit 4),⟨[(0, .list 4),(1, .list 4),(7, .int .i64)],[],85⟩)]⟩⟩]
def ja36:List JA:=
 [⟨36,[fF,tT,fF,fF,tT,fF,fF,tT,fF,fF,tT,fF,tT,tT,tT,tT],0,[(AX.ret,⟨[(4, .int .i64)],[],85⟩),(AX.normal,⟨[(0, .list 4),(1, .list 4),(7, .int .i64),(8, .int .i64)],[],85⟩)]⟩,
 ⟨36,[fF,tT,fF,fF,tT,fF,tT,tT,tT],0,[(AX.ret,⟨[(4, .int .i64)],[],85⟩),(AX.normal,⟨[(0, .list 4),(1, .list 4),(5, .int .i64)],[],85⟩)]⟩]
def u8h:List CF:=
 [⟨u1v,G44⟩,⟨u1q,G77⟩,⟨u1w,G43⟩,⟨u3z,G82⟩]
def an36:Anns:=
 ⟨u8h,ja36,[]⟩
def v58 (p:Prim):W33w→Option (W33w⊕(W0w⊕W13w)):=
 fun a=>let A:=p.nat a.2.2.2.1;let B:=p.nat a.2.2.1;let C:=[ci,ci,(CK.list 1),ci];let E:=p.cmp .geq a.2.2.2.1 (0:Int);let F:=p.cmp .geq a.2.2.1 (0:Int); opt.run _ (
 opt.ask _ (p.cmp .lss a.2.2.2.1 a.2.2.1) (
 opt.alt (W0w) (W33w) _ (
 opt.run ((W0w⊕W33w)) (
 opt.need _ (p.rowOk a.1 A C)<|
 opt.need _ E<|
 opt.need _ (p.rowOk a.1 B C)<|
 opt.need _ F<|
 opt.bnd (W3w) _ (G44 p ((p.rdI a.1 A 0),((p.rdI a.1 A 1),((p.rdL a.1 A 2),((p.rdI a.1 A 3),((p.rdI a.1 B 0),((p.rdI a.1 B 1),((p.rdL a.1 B 2),((p.rdI a.1 B 3),()))))))))) fun b=>
 opt.ask _ b.1 (
 opt.need _ (p.rowOk a.1 A C)<|
 opt.need _ E<|
 opt.bnd (W0w) _ (G43 p (a.2.1,((p.rdI a.1 A 0),()))) fun c=>
 opt.need _ (p.rowOk a.1 B C)<|
 opt.need _ F<|
 opt.bnd (W0w) _ (G43 p (a.2.1,((p.rdI a.1 B 0),()))) fun d=>
 opt.ask _ (p.cmp .gtr c.1 d.1) (
 opt.ret _ (Sum.inl ((24:Int),()))) (
 opt.ret _ (Sum.inr a))) (
 opt.ret _ (Sum.inr a)))) (fun e=>
 opt.ret _ (Sum.inr (Sum.inl e))) (fun f=>
 opt.bnd (W33w) _ (some f) fun g=>
 opt.ret _ (Sum.inl (g.1,(g.2.1,(g.2.2.1,((p.ar .add .i64 g.2.2.2.1 (1:Int)),()))))))) (
 opt.ret _ (Sum.inr (Sum.inr (a.1,(a.2.1,(a.2.2.1,())))))))
def v7e (p:Prim):W13w→Option (W13w⊕(W0w⊕Unit)):=
 fun a=>opt.run _ (
 opt.ask _ (p.cmp .lss a.2.2.1 (p.ofNat (p.len a.1))) (
 opt.alt (W0w) (W13w) _ (
 z5r (v58 p) (a.1,(a.2.1,(a.2.2.1,((0:Int),()))))) (fun b=>
 opt.ret _ (Sum.inr (Sum.inl b))) (fun c=>
 opt.bnd (W13w) _ (some c) fun d=>
 opt.ret _ (Sum.inl (d.1,(d.2.1,((p.ar .add .i64 d.2.2.1 (1:Int)),())))))) (
 opt.ret _ (Sum.inr (Sum.inr ()))))
def v5t (p:Prim):W13w→Option (W13w⊕(W0w⊕W22w)):=
 fun a=>let A:=p.nat a.2.2.1;let B:=[ci,ci,(CK.list 1),ci];let E:=p.cmp .geq a.2.2.1 (0:Int); opt.run _ (
 opt.ask _ (p.cmp .lss a.2.2.1 (p.ofNat (p.len a.1))) (
 opt.alt (W0w) (W13w) _ (
 opt.run ((W0w⊕W13w)) (
 opt.need _ (p.rowOk a.1 A B)<|
 opt.need _ E<|
 opt.bnd (W0w) _ (G43 p (a.2.1,((p.rdI a.1 A 0),()))) fun b=>let C:=p.nat b.1;
 opt.ask _ (p.cmp .lss b.1 (0:Int)) (
 opt.ret _ (Sum.inl ((15:Int),()))) (
 opt.need _ (p.rowOk a.1 A B)<|
 opt.need _ E<|
 opt.need _ (p.rowOk a.2.1 C B)<|
 opt.need _ (p.cmp .geq b.1 (0:Int))<|
 opt.bnd (W3w) _ (G77 p ((p.rdI a.1 A 0),((p.rdI a.1 A 1),((p.rdL a.1 A 2),((p.rdI a.1 A 3),((p.rdI a.2.1 C 0),((p.rdI a.2.1 C 1),((p.rdL a.2.1 C 2),((p.rdI a.2.1 C 3),()))))))))) fun c=>
 opt.ask _ (bif c.1 then Bool.false else Bool.true) (
 opt.ret _ (Sum.inl ((15:Int),()))) (
 opt.ret _ (Sum.inr a))))) (fun d=>
 opt.ret _ (Sum.inr (Sum.inl d))) (fun e=>
 opt.bnd (W13w) _ (some e) fun f=>
 opt.ret _ (Sum.inl (f.1,(f.2.1,((p.ar .add .i64 f.2.2.1 (1:Int)),())))))) (
 opt.ret _ (Sum.inr (Sum.inr (a.1,(a.2.1,()))))))
def G36:(p:Prim)→W22w→Option (W0w):=
 fun p x=>let A:=((0:Int),());
 opt.bnd (W0w) _ (G82 p x) fun a=>
 opt.ask _ (p.cmp .neq a.1 (0:Int)) (
 opt.bnd (W0w) _ (G82 p x) fun b=>
 opt.ret _ b) (
 opt.ask _ (p.cmp .neq (p.ofNat (p.len x.1)) (p.ofNat (p.len x.2.1))) (
 opt.ret _ ((15:Int),())) (
 opt.alt (W0w) (W22w) _ (
 z5r (v5t p) (x.1,(x.2.1,A))) (fun c=>
 opt.ret _ c) (fun d=>
 opt.bnd (W22w) _ (some d) fun e=>
 opt.alt (W0w) (Unit) _ (
 z5r (v7e p) (e.1,(e.2.1,A))) (fun f=>
 opt.ret _ f) (fun g=>
 opt.bnd (Unit) _ (some g) fun h=>
 opt.ret _ A))))
theorem ok36:CtrOk PG u4j (G36 std):=okF vE (a:=an36) (l:=la36) (gC u9r (gC u9m (gC u9s (gC ok82 (gN)))))
def u4h:Ctr:=
 ⟨42,[.list 4, .list 1],[],[(.ret,⟨[(0, .sl 0 4)],[q5m],1⟩)]⟩
def la42:List LA:=
 [⟨42,[fF,tT,fF,tT,tT],0,⟨⟨[(1, .list 1),(5, .sl 0 4),(6, .int .i64)],[q5m],59⟩,[((AX.exit 0),⟨[(5, .sl 0 4)],[q5m],59⟩)]⟩⟩]
def ja42:List JA:=
 [⟨42,[tT,tT,fF,fF,tT,fF,fF,tT,fF,tT,tT],0,[(AX.normal,⟨[(1, .list 1),(5, .sl 0 4),(6, .int .i64)],[q5m],59⟩)]⟩,
 ⟨42,[fF,fF,fF,fF,tT,fF,tT,tT],0,[(AX.normal,⟨[(1, .list 1),(5, .sl 0 4),(6, .int .i64),(19, .bool)],[q5m],59⟩)]⟩]
def u8f:List CF:=
 [⟨u1v,G44⟩]
def an42:Anns:=
 ⟨u8f,ja42,[]⟩
def v57 (p:Prim):W16w→Option (W16w⊕W9w):=
 fun a=>let M:=(1:Int);let P:=(0:Int);let H:=[ci,ci,(CK.list 1),ci]; opt.run _ (
 opt.bnd (W29w) _ (
 opt.run (W29w) (
 opt.ask _ (p.cmp .lss a.2.2.2.2.1 (p.ofNat (p.len a.2.1))) (
 opt.ret _ (a.1,(a.2.1,(a.2.2.1,(a.2.2.2.1,(a.2.2.2.2.1,((p.cmp .gtr (p.ofNat a.2.2.2.1) M),()))))))) (
 opt.ret _ (a.1,(a.2.1,(a.2.2.1,(a.2.2.2.1,(a.2.2.2.2.1,(Bool.false,()))))))))) fun b=>let N:=b.2.2.2.2.1;let J:=p.ofNat b.2.2.2.1;let A:=p.ar .rem .i64 (p.cvt .i64 (p.rdI b.2.1 (p.nat N) 0)) (p.ar .sub .i64 J M);let I:=p.ar .add .i64 A M;let B:=p.add b.2.2.1 (p.nat I);let C:=p.add b.2.2.1 (p.nat A);let E:=bif (p.cmp .geq I P) then (p.cmp .lss I J) else Bool.false;let F:=bif (p.cmp .geq A P) then (p.cmp .lss A J) else Bool.false;let O:=b.1;let G:=p.set O C [(D.int .i64 (p.rdI O B 0)),(D.int .i64 (p.rdI O B 1)),(D.list (p.rdF O B 2 1) 1 (p.rdL O B 2)),(D.int .i64 (p.rdI O B 3))];let K:=(b.2.1,(b.2.2.1,(b.2.2.2.1,(N,()))));let L:=p.rowOk O C H;
 opt.ask _ b.2.2.2.2.2.1 (
 opt.need _ (p.rowOk b.2.1 (p.nat N) [(CK.int .u8)])<|
 opt.need _ (p.cmp .geq N P)<|
 opt.need _ (p.cmp .neq (p.ar .sub .i64 J M) P)<|
 opt.need _ F<|
 opt.need _ L<|
 opt.need _ E<|
 opt.need _ (p.rowOk O B H)<|
 opt.bnd (W3w) _ (G44 p ((p.rdI O C 0),((p.rdI O C 1),((p.rdL O C 2),((p.rdI O C 3),((p.rdI O B 0),((p.rdI O B 1),((p.rdL O B 2),((p.rdI O B 3),()))))))))) fun c=>
 opt.bnd (W16w) _ (
 opt.run (W16w) (
 opt.ask _ (bif c.1 then Bool.false else Bool.true) (
 opt.need _ E<|
 opt.need _ (p.rowOk O B H)<|
 opt.need _ F<|
 opt.need _ L<|
 opt.need _ F<|
 opt.need _ L<|
 opt.need _ E<|
 opt.need _ (p.rowOk G B H)<|
 opt.ret _ ((p.set G B [(D.int .i64 (p.rdI O C 0)),(D.int .i64 (p.rdI O C 1)),(D.list (p.rdF O C 2 1) 1 (p.rdL O C 2)),(D.int .i64 (p.rdI O C 3))]),K)) (
 opt.ret _ (O,K)))) fun d=>
 opt.ret _ (Sum.inl (d.1,(d.2.1,(d.2.2.1,(d.2.2.2.1,((p.ar .add .i64 d.2.2.2.2.1 M),()))))))) (
 opt.ret _ (Sum.inr (O,(b.2.2.1,(b.2.2.2.1,()))))))
def v8p (p:Prim):W16w→Option (W16w⊕W9w):=
 fun a=>let M:=(1:Int);let P:=(0:Int);let H:=[ci,ci,(CK.list 1),ci]; opt.run _ (
 opt.bnd (W29w) _ (
 opt.run (W29w) (
 opt.ask _ (p.cmp .lss a.2.2.2.2.1 (p.ofNat (p.len a.2.1))) (
 opt.ret _ (a.1,(a.2.1,(a.2.2.1,(a.2.2.2.1,(a.2.2.2.2.1,((p.cmp .gtr (p.ofNat a.2.2.2.1) M),()))))))) (
 opt.ret _ (a.1,(a.2.1,(a.2.2.1,(a.2.2.2.1,(a.2.2.2.2.1,(Bool.false,()))))))))) fun b=>let N:=b.2.2.2.2.1;let J:=p.ofNat b.2.2.2.1;let A:=p.ar .rem .i64 (p.cvt .i64 (p.rdI b.2.1 (p.nat N) 0)) (p.ar .sub .i64 J M);let I:=p.ar .add .i64 A M;let B:=p.add b.2.2.1 (p.nat I);let C:=p.add b.2.2.1 (p.nat A);let E:=bif (p.cmp .geq I P) then (p.cmp .lss I J) else Bool.false;let F:=bif (p.cmp .geq A P) then (p.cmp .lss A J) else Bool.false;let O:=b.1;let G:=p.set O C [(D.int .i64 (p.rdI O B 0)),(D.int .i64 (p.rdI O B 1)),(D.list (p.rdF O B 2 1) 1 (p.rdL O B 2)),(D.int .i64 (p.rdI O B 3))];let K:=(b.2.1,(b.2.2.1,(b.2.2.2.1,(N,()))));let L:=p.rowOk O C H;
 opt.ask _ b.2.2.2.2.2.1 (
 opt.need _ (p.rowOk b.2.1 (p.nat N) [(CK.int .u8)])<|
 opt.need _ (p.cmp .geq N P)<|
 opt.need _ (p.cmp .neq (p.ar .sub .i64 J M) P)<|
 opt.need _ F<|
 opt.need _ L<|
 opt.need _ E<|
 opt.need _ (p.rowOk O B H)<|
 opt.bnd (W3w) _ (G44 p ((p.rdI O C 0),((p.rdI O C 1),((p.rdL O C 2),((p.rdI O C 3),((p.rdI O B 0),((p.rdI O B 1),((p.rdL O B 2),((p.rdI O B 3),()))))))))) fun c=>
 opt.bnd (W16w) _ (
 opt.run (W16w) (
 opt.ask _ (bif c.1 then Bool.false else Bool.true) (
 opt.need _ E<|
 opt.need _ (p.rowOk O B H)<|
 opt.need _ F<|
 opt.need _ L<|
 opt.need _ F<|
 opt.need _ L<|
 opt.need _ E<|
 opt.need _ (p.rowOk G B H)<|
 opt.ret _ ((p.set G B [(D.int .i64 (p.rdI O C 0)),(D.int .i64 (p.rdI O C 1)),(D.list (p.rdF O C 2 1) 1 (p.rdL O C 2)),(D.int .i64 (p.rdI O C 3))]),K)) (
 opt.ret _ (O,K)))) fun d=>
 opt.ret _ (Sum.inl (d.1,(d.2.1,(d.2.2.1,(d.2.2.2.1,((p.ar .add .i64 d.2.2.2.2.1 M),()))))))) (
 opt.ret _ (Sum.inr (O,(b.2.2.1,(b.2.2.2.1,()))))))
def G42:(p:Prim)→W22w→Option (W9w):=
 fun p x=>let A:=p.add 0 (p.len x.1);let B:=p.leN (p.add 0 0) (p.len []);let C:=(x.2.1,(0,(A,((0:Int),()))));let E:=p.splice [] (p.add 0 0) x.1;
 opt.ask _ (p.leN A 0) (
 opt.need _ (p.and Bool.true (p.and B B))<|
 opt.need _ (p.leN (p.add 0 0) (p.len E))<|
 opt.bnd (W9w) _ (
 z5r (v8p p) (E,C)) fun a=>
 opt.ret _ a) (
 opt.need _ (p.and Bool.true (p.and B (p.and (p.leN 1 (p.len x.1)) (p.leN A 1000000))))<|
 opt.bnd (W9w) _ (
 z5r (v57 p) ((p.app (p.cut [] 0 0) x.1),C)) fun b=>
 opt.ret _ b)
theorem ok42:CtrOk PG u4h (G42 std):=okF vE (a:=an42) (l:=la42) (gC u9r (gN))
end Go.Am
end
noncomputable section
namespace Go.Am
def u0d:Ctr:=
 ⟨137,[.map 0, .list 1],[.map],[(.ret,⟨[(0, .int .i64)],[.map],1⟩)]⟩
def u6y:List LA:=
 [⟨137,[fF,tT,fF,tT],1,⟨⟨[(0, .map 0),(9, .list 1),(10, .int .i64),(11, .int .i64)],[.map],29⟩,[(AX.ret,⟨[(4, .int .i64)],[.map],29⟩),((AX.exit 0),⟨[],[.map],29⟩)]⟩⟩]
def u7i:List JA:=
 [⟨137,[fF,tT,tT,fF,fF,tT,fF,tT],1,[(AX.ret,⟨[(4, .int .i64)],[.map],29⟩),(AX.normal,⟨[(0, .map 0),(9, .list 1),(10, .int .i64),(11, .int .i64)],[.map],29⟩)]⟩]
def u3s:List CF:=
 []
def u8y:Anns:=
 ⟨u3s,u7i,[]⟩
def v39 (p:Prim):W26w→Option (W26w⊕(W4w⊕W7w)):=
 fun a=>let B:=a.2.2.2.1;let A:=D.int .i64 (p.rdI a.2.1 (p.nat B) 0); opt.run _ (
 opt.ask _ (p.cmp .lss B a.2.2.1) (
 opt.alt (W4w) (W26w) _ (
 opt.run ((W4w⊕W26w)) (
 opt.need _ (p.rowOk a.2.1 (p.nat B) [ci])<|
 opt.need _ (p.cmp .geq B (0:Int))<|
 opt.need _ (p.mOk a.1 [SK.i] Bool.false A Bool.true [ci,ci,ci,CK.bool])<|
 opt.ask _ (p.mhas a.1 [SK.i] Bool.false A) (
 opt.ask _ (p.mB a.1 [SK.i] Bool.false A 3) (
 opt.ret _ (Sum.inl (a.1,((9:Int),())))) (
 opt.ret _ (Sum.inr a))) (
 opt.ret _ (Sum.inl (a.1,((5:Int),())))))) (fun b=>
 opt.ret _ (Sum.inr (Sum.inl b))) (fun c=>
 opt.bnd (W26w) _ (some c) fun d=>
 opt.ret _ (Sum.inl (d.1,(d.2.1,(d.2.2.1,((p.ar .add .i64 d.2.2.2.1 (1:Int)),()))))))) (
 opt.ret _ (Sum.inr (Sum.inr (a.1,())))))
def v8w:(p:Prim)→W30w→Option (W4w):=
 fun p x=>
 opt.alt (W4w) (W7w) _ (
 z5r (v39 p) (x.1,(x.2.1,((p.ofNat (p.len x.2.1)),((0:Int),()))))) (fun a=>
 opt.ret _ a) (fun b=>
 opt.bnd (W7w) _ (some b) fun c=>
 opt.ret _ (c.1,((0:Int),())))
theorem u6o:CtrOk PG u0d (v8w std):=okF vD (a:=u8y) (l:=u6y) (gN)
def u0e:Ctr:=
 ⟨136,[.map 0, .int .i64, .int .i64],[.map],[(.ret,⟨[(0, .int .i64)],[.map],1⟩)]⟩
def u6z:List LA:=
 []
def u7j:List JA:=
 []
def u3t:List CF:=
 []
def u8z:Anns:=
 ⟨u3t,u7j,[]⟩
def v93:(p:Prim)→(List (W19w)×W32w)→Option (W4w):=
 fun p x=>let A:=D.int .i64 x.2.1;let E:=(0:Int);let B:=D.agg [A,(D.int .i64 x.2.2.1),(D.int .i64 E),(D.bool Bool.false)];let J:=[SK.i];let C:=p.mOk x.1 J Bool.false A Bool.true [ci,ci,ci,CK.bool];let F:=((p.mset x.1 (p.nat (p.ofNat (p.mpos x.1 J Bool.false A))) A B),(E,()));let G:=p.mhas x.1 J Bool.false A;let H:=p.cmp .eql E E;let I:=((p.madd x.1 A B),(E,()));let K:=(x.1,((11:Int),()));
 opt.need _ C<|
 opt.ask _ G (
 opt.ask _ (bif (bif (p.cmp .eql (p.mI x.1 J Bool.false A 0) E) then (bif (p.cmp .eql (p.mI x.1 J Bool.false A 1) E) then (bif (p.cmp .eql (p.mI x.1 J Bool.false A 2) E) then (bif (p.bEq (p.mB x.1 J Bool.false A 3) Bool.false) then Bool.true else Bool.false) else Bool.false) else Bool.false) else Bool.false) then Bool.false else Bool.true) (
 opt.ret _ K) (
 opt.need _ C<|
 opt.ask _ G (
 opt.ret _ F) (
 opt.ret _ I))) (
 opt.ask _ (bif (bif H then (bif H then (bif H then (bif (p.bEq Bool.false Bool.false) then Bool.true else Bool.false) else Bool.false) else Bool.false) else Bool.false) then Bool.false else Bool.true) (
 opt.ret _ K) (
 opt.need _ C<|
 opt.ask _ G (
 opt.ret _ F) (
 opt.ret _ I)))
theorem u6p:CtrOk PG u0e (v93 std):=okF vD (a:=u8z) (l:=u6z) (gN)
def u0a:Ctr:=
 ⟨140,[.bptr 0 0, .int .i64],[q1m],[(.ret,⟨[(0, .tuple [])],[q1m],1⟩)]⟩
def u6v:List LA:=
 []
def u7f:List JA:=
 []
def u3p:List CF:=
 []
def u8v:Anns:=
 ⟨u3p,u7f,[]⟩
def u5r:(p:Prim)→W35w→Option (W18w):=
 fun p x=>
 opt.ret _ (x.1,(x.2.1,(x.2.2.2.2.1,(x.2.2.2.1,()))))
theorem u6l:CtrOk PG u0a (u5r std):=okF vD (a:=u8v) (l:=u6v) (gN)
def u0b:Ctr:=
 ⟨139,[.map 0, .int .i64, .int .i64, .int .i64, .int .i64, .clo 140 [] []],[.map],[(.ret,⟨[(0, .int .i64)],[.map],1⟩)]⟩
def u6w:List LA:=
 []
def u7g:List JA:=
 []
def u3q:List CF:=
 [⟨u0a,u5r⟩,⟨w8e,F56⟩]
def u8w:Anns:=
 ⟨u3q,u7g,[]⟩
def u2u:(p:Prim)→(List (W19w)×W12w)→Option (W4w):=
 fun p x=>let A:=D.int .i64 x.2.1;let I:=[SK.i];let B:=p.mOk x.1 I Bool.false A Bool.true [ci,ci,ci,CK.bool];let F:=p.mhas x.1 I Bool.false A;let G:=p.nat (p.ofNat (p.mpos x.1 I Bool.false A));let H:=(0:Int);
 opt.bnd (W3w) _ (G56 p (x.2.2.2.1,(x.2.2.2.2.1,([[(D.int .i64 x.2.2.1)]],())))) fun a=>
 opt.ask _ (bif a.1 then Bool.false else Bool.true) (
 opt.ret _ (x.1,((4:Int),()))) (
 opt.need _ B<|
 opt.ask _ F (
 opt.bnd (W18w) _ (u5r p ((p.mI x.1 I Bool.false A 0),((p.mI x.1 I Bool.false A 1),((p.mI x.1 I Bool.false A 2),((p.mB x.1 I Bool.false A 3),(x.2.2.1,())))))) fun b=>let E:=D.agg [(D.int .i64 b.1),(D.int .i64 b.2.1),(D.int .i64 b.2.2.1),(D.bool b.2.2.2.1)];
 opt.need _ B<|
 opt.ask _ F (
 opt.ret _ ((p.mset x.1 G A E),(H,()))) (
 opt.ret _ ((p.madd x.1 A E),(H,())))) (
 opt.bnd (W18w) _ (u5r p (H,(H,(H,(Bool.false,(x.2.2.1,())))))) fun c=>let C:=D.agg [(D.int .i64 c.1),(D.int .i64 c.2.1),(D.int .i64 c.2.2.1),(D.bool c.2.2.2.1)];
 opt.need _ B<|
 opt.ask _ F (
 opt.ret _ ((p.mset x.1 G A C),(H,()))) (
 opt.ret _ ((p.madd x.1 A C),(H,())))))
theorem u6m:CtrOk PG u0b (u2u std):=okF vD (a:=u8w) (l:=u6w) (gC u6l (gC ok56 (gN)))
def v99:Ctr:=
 ⟨141,[.bptr 0 0, .int .i64],[q1m],[(.ret,⟨[(0, .tuple [])],[q1m],1⟩)]⟩
def u6u:List LA:=
 []
def u7e:List JA:=
 []
def u3o:List CF:=
 []
def u8u:Anns:=
 ⟨u3o,u7e,[]⟩
def u5q:(p:Prim)→W35w→Option (W18w):=
 fun p x=>
 opt.ret _ (x.1,(x.2.2.2.2.1,(x.2.2.1,(x.2.2.2.1,()))))
theorem u6k:CtrOk PG v99 (u5q std):=okF vD (a:=u8u) (l:=u6u) (gN)
def v6r:Ctr:=
 ⟨139,[.map 0, .int .i64, .int .i64, .int .i64, .int .i64, .clo 141 [] []],[.map],[(.ret,⟨[(0, .int .i64)],[.map],1⟩)]⟩
def u1l:List LA:=
 []
def u1n:List JA:=
 []
def v9a:List CF:=
 [⟨v99,u5q⟩,⟨w8e,F56⟩]
def u2f:Anns:=
 ⟨v9a,u1n,[]⟩
def v40:(p:Prim)→(List (W19w)×W12w)→Option (W4w):=
 fun p x=>let A:=D.int .i64 x.2.1;let I:=[SK.i];let B:=p.mOk x.1 I Bool.false A Bool.true [ci,ci,ci,CK.bool];let F:=p.mhas x.1 I Bool.false A;let G:=p.nat (p.ofNat (p.mpos x.1 I Bool.false A));let H:=(0:Int);
 opt.bnd (W3w) _ (G56 p (x.2.2.2.1,(x.2.2.2.2.1,([[(D.int .i64 x.2.2.1)]],())))) fun a=>
 opt.ask _ (bif a.1 then Bool.false else Bool.true) (
 opt.ret _ (x.1,((4:Int),()))) (
 opt.need _ B<|
 opt.ask _ F (
 opt.bnd (W18w) _ (u5q p ((p.mI x.1 I Bool.false A 0),((p.mI x.1 I Bool.false A 1),((p.mI x.1 I Bool.false A 2),((p.mB x.1 I Bool.false A 3),(x.2.2.1,())))))) fun b=>let E:=D.agg [(D.int .i64 b.1),(D.int .i64 b.2.1),(D.int .i64 b.2.2.1),(D.bool b.2.2.2.1)];
 opt.need _ B<|
 opt.ask _ F (
 opt.ret _ ((p.mset x.1 G A E),(H,()))) (
 opt.ret _ ((p.madd x.1 A E),(H,())))) (
 opt.bnd (W18w) _ (u5q p (H,(H,(H,(Bool.false,(x.2.2.1,())))))) fun c=>let C:=D.agg [(D.int .i64 c.1),(D.int .i64 c.2.1),(D.int .i64 c.2.2.1),(D.bool c.2.2.2.1)];
 opt.need _ B<|
 opt.ask _ F (
 opt.ret _ ((p.mset x.1 G A C),(H,()))) (
 opt.ret _ ((p.madd x.1 A C),(H,())))))
theorem u1e:CtrOk PG v6r (v40 std):=okF vD (a:=u2f) (l:=u1l) (gC u6k (gC ok56 (gN)))
def u0c:Ctr:=
 ⟨138,[.bptr 0 0, .int .i64],[q1m],[(.ret,⟨[(0, .tuple [])],[q1m],1⟩)]⟩
def u6x:List LA:=
 []
def u7h:List JA:=
 []
def u3r:List CF:=
 []
def u8x:Anns:=
 ⟨u3r,u7h,[]⟩
def u5s:(p:Prim)→W35w→Option (W18w):=
 fun p x=>
 opt.ret _ (x.1,(x.2.1,(x.2.2.1,(Bool.true,()))))
theorem u6n:CtrOk PG u0c (u5s std):=okF vD (a:=u8x) (l:=u6x) (gN)
def v6q:Ctr:=
 ⟨139,[.map 0, .int .i64, .int .i64, .int .i64, .int .i64, .clo 138 [] []],[.map],[(.ret,⟨[(0, .int .i64)],[.map],1⟩)]⟩
def u1k:List LA:=
 []
def u1m:List JA:=
 []
def v89:List CF:=
 [⟨u0c,u5s⟩,⟨w8e,F56⟩]
def u2e:Anns:=
 ⟨v89,u1m,[]⟩
def v3p:(p:Prim)→(List (W19w)×W12w)→Option (W4w):=
 fun p x=>let A:=D.int .i64 x.2.1;let I:=[SK.i];let B:=p.mOk x.1 I Bool.false A Bool.true [ci,ci,ci,CK.bool];let F:=p.mhas x.1 I Bool.false A;let G:=p.nat (p.ofNat (p.mpos x.1 I Bool.false A));let H:=(0:Int);
 opt.bnd (W3w) _ (G56 p (x.2.2.2.1,(x.2.2.2.2.1,([[(D.int .i64 x.2.2.1)]],())))) fun a=>
 opt.ask _ (bif a.1 then Bool.false else Bool.true) (
 opt.ret _ (x.1,((4:Int),()))) (
 opt.need _ B<|
 opt.ask _ F (
 opt.bnd (W18w) _ (u5s p ((p.mI x.1 I Bool.false A 0),((p.mI x.1 I Bool.false A 1),((p.mI x.1 I Bool.false A 2),((p.mB x.1 I Bool.false A 3),(x.2.2.1,())))))) fun b=>let E:=D.agg [(D.int .i64 b.1),(D.int .i64 b.2.1),(D.int .i64 b.2.2.1),(D.bool b.2.2.2.1)];
 opt.need _ B<|
 opt.ask _ F (
 opt.ret _ ((p.mset x.1 G A E),(H,()))) (
 opt.ret _ ((p.madd x.1 A E),(H,())))) (
 opt.bnd (W18w) _ (u5s p (H,(H,(H,(Bool.false,(x.2.2.1,())))))) fun c=>let C:=D.agg [(D.int .i64 c.1),(D.int .i64 c.2.1),(D.int .i64 c.2.2.1),(D.bool c.2.2.2.1)];
 opt.need _ B<|
 opt.ask _ F (
 opt.ret _ ((p.mset x.1 G A C),(H,()))) (
 opt.ret _ ((p.madd x.1 A C),(H,())))))
theorem u1d:CtrOk PG v6q (v3p std):=okF vD (a:=u2e) (l:=u1k) (gC u6n (gC ok56 (gN)))
def u0i:Ctr:=
 ⟨110,[.map 0, .agg [.int .i64, .int .i64, .list 1, .int .i64]],[.map],[(.ret,⟨[(0, .int .i64)],[.map],1⟩)]⟩
def u7d:List LA:=
 []
def u7n:List JA:=
 [⟨110,[tT,fF,tT,tT,tT,tT],1,[(AX.normal,⟨[(0, .map 0),(3, .bptr 1 0),(5, .int .i64),(6, .list 1)],[.map,q0m],135⟩)]⟩,
 ⟨110,[tT,tT,tT,tT,tT,fF,tT,tT,fF,tT,tT,tT,tT,tT,tT,tT],1,[(AX.ret,⟨[(4, .int .i64)],[.map],135⟩),(AX.normal,⟨[],[.map],135⟩)]⟩,
 ⟨110,[tT,tT,tT,fF,tT,tT,fF,tT,tT,tT,tT,tT,tT,tT],1,[(AX.ret,⟨[(4, .int .i64)],[.map],135⟩),(AX.normal,⟨[],[.map],135⟩)]⟩,
 ⟨110,[tT,fF,tT,tT,fF,tT,tT,tT,tT,tT,tT,tT],1,[(AX.ret,⟨[(4, .int .i64)],[.map],135⟩),(AX.normal,⟨[],[.map],135⟩)]⟩,
 ⟨110,[tT,tT,tT,tT,tT,tT,tT,fF,tT,tT,fF,tT,tT,tT,tT,tT,tT,tT],1,[(AX.ret,⟨[(4, .int .i64)],[.map],135⟩),(AX.normal,⟨[],[.map],135⟩)]⟩]
def u3x:List CF:=
 [⟨v6q,v3p⟩,⟨v6r,v40⟩,⟨u0b,u2u⟩,⟨u0d,v8w⟩,⟨u0e,v93⟩,⟨w8e,F56⟩]
def u9d:Anns:=
 ⟨u3x,u7n,[]⟩
def v4e:(p:Prim)→(List (W19w)×W25w)→Option (W4w):=
 fun p x=>let A2:=(1:Int);let C:=(0:Int);let A4:=[SK.i];let A3:=[ci,ci,ci,CK.bool];let A6:=x.2.2.2.1;let J:=p.ofNat (p.len A6);let B7:=(1000:Int);let A9:=(A2,((1000000:Int),()));let A8:=p.nat C;let R:=p.cut A6 A8 (p.sub (p.nat J) A8);let V:=p.cmp .neq B7 C;let Z:=p.rdI A6 A8 0;let B5:=(C,((10000:Int),()));
 opt.need _ (p.rowOk A6 A8 [ci])<|
 opt.ask _ (p.cmp .eql x.2.2.1 A2) (
 opt.bnd (W4w) _ (v93 p (x.1,(Z,x.2.2.2.2))) fun a=>
 opt.ret _ a) (
 opt.need _ (p.and (p.cmp .geq C C) (p.and (p.cmp .leq C J) (p.and (p.cmp .leq J J) (p.cmp .leq J J))))<|
 opt.bnd (W40w) _ (
 opt.run (W40w) (
 opt.ask _ (p.cmp .eql x.2.2.1 (4:Int)) (
 opt.need _ (p.and (p.cmp .geq C C) (p.and (p.cmp .leq C A2) (p.cmp .leq A2 (p.ofNat (p.len R)))))<|
 opt.ret _ (x.1,(x.2.1,(x.2.2.1,(A6,(x.2.2.2.2.1,(Z,((p.cut R A8 (p.sub (p.nat A2) A8)),())))))))) (
 opt.ret _ (x.1,(x.2.1,(x.2.2.1,(A6,(x.2.2.2.2.1,(Z,(R,())))))))))) fun b=>let B6:=b.2.2.2.1;let X:=p.rdI B6 (p.nat A2) 0;let A:=D.int .i64 X;let B:=D.int .i64 (p.rdI B6 (p.nat (2:Int)) 0);let M:=b.2.2.2.2.2.1;let A5:=D.int .i64 M;let F:=p.rowOk B6 (p.nat A2) [ci];let Q:=b.2.2.2.2.1;let G:=p.ar .sub .i64 C Q;let N:=p.rowOk B6 (p.nat (2:Int)) [ci];let Y:=(M,(C,(C,(C,()))));let A7:=b.2.2.1;let B1:=p.cmp .eql A7 (5:Int);let B2:=p.cmp .eql A7 (4:Int);let B3:=p.cmp .eql A7 (3:Int);let B4:=p.cmp .eql A7 (2:Int);
 opt.bnd (W4w) _ (v8w p (b.1,b.2.2.2.2.2.2)) fun c=>let E:=p.mI c.1 A4 Bool.false A5 1;let H:=p.mOk c.1 A4 Bool.false B Bool.true A3;let I:=p.mOk c.1 A4 Bool.false A Bool.true A3;let O:=p.mI c.1 A4 Bool.false A 1;let K:=v40 p (c.1,(M,((p.ar .quo .i64 (p.ar .mul .i64 O Q) B7),A9)));let L:=(c.1,((23:Int),()));let P:=v40 p (c.1,(M,((p.ar .quo .i64 (p.ar .mul .i64 C Q) B7),A9)));let S:=p.mhas c.1 A4 Bool.false B;let T:=p.mhas c.1 A4 Bool.false A;let U:=p.mI c.1 A4 Bool.false B 1;let A1:=(c.1,());
 opt.ask _ (p.cmp .neq c.2.1 C) (
 opt.ret _ c) (
 opt.need _ (p.mOk c.1 A4 Bool.false A5 Bool.true A3)<|
 opt.ask _ (p.mhas c.1 A4 Bool.false A5) (
 opt.alt (W4w) (W7w) _ (
 opt.run ((W4w⊕W7w)) (
 opt.ask _ B4 (
 opt.bnd (W4w) _ (u2u p (c.1,(M,((p.ar .add .i64 (p.mI c.1 A4 Bool.false A5 2) Q),B5)))) fun d=>
 opt.ret _ (Sum.inl d)) (
 opt.alt (W4w) (W7w) _ (
 opt.run ((W4w⊕W7w)) (
 opt.ask _ B3 (
 opt.need _ F<|
 opt.need _ I<|
 opt.ask _ T (
 opt.need _ V<|
 opt.bnd (W4w) _ K fun e=>
 opt.ret _ (Sum.inl e)) (
 opt.need _ V<|
 opt.bnd (W4w) _ P fun f=>
 opt.ret _ (Sum.inl f))) (
 opt.alt (W4w) (W7w) _ (
 opt.run ((W4w⊕W7w)) (
 opt.ask _ B2 (
 opt.need _ F<|
 opt.bnd (W4w) _ (v93 p (c.1,(X,(E,())))) fun g=>
 opt.ask _ (p.cmp .neq g.2.1 C) (
 opt.ret _ (Sum.inl g)) (
 opt.bnd (W4w) _ (v3p p (g.1,Y)) fun h=>
 opt.ret _ (Sum.inl h))) (
 opt.alt (W4w) (W7w) _ (
 opt.run ((W4w⊕W7w)) (
 opt.ask _ B1 (
 opt.bnd (W4w) _ (v3p p (c.1,Y)) fun i=>
 opt.ret _ (Sum.inl i)) (
 opt.need _ F<|
 opt.need _ I<|
 opt.ask _ T (
 opt.need _ N<|
 opt.need _ H<|
 opt.ask _ S (
 opt.bnd (W3w) _ (G56 p (G,(Q,([[(D.int .i64 (p.ar .sub .i64 (p.ar .add .i64 E O) U))]],())))) fun j=>
 opt.ask _ (bif j.1 then Bool.false else Bool.true) (
 opt.ret _ (Sum.inl L)) (
 opt.ret _ (Sum.inr A1))) (
 opt.bnd (W3w) _ (G56 p (G,(Q,([[(D.int .i64 (p.ar .sub .i64 (p.ar .add .i64 E O) C))]],())))) fun k=>
 opt.ask _ (bif k.1 then Bool.false else Bool.true) (
 opt.ret _ (Sum.inl L)) (
 opt.ret _ (Sum.inr A1)))) (
 opt.need _ N<|
 opt.need _ H<|
 opt.ask _ S (
 opt.bnd (W3w) _ (G56 p (G,(Q,([[(D.int .i64 (p.ar .sub .i64 (p.ar .add .i64 E C) U))]],())))) fun l=>
 opt.ask _ (bif l.1 then Bool.false else Bool.true) (
 opt.ret _ (Sum.inl L)) (
 opt.ret _ (Sum.inr A1))) (
 opt.bnd (W3w) _ (G56 p (G,(Q,([[(D.int .i64 (p.ar .sub .i64 (p.ar .add .i64 E C) C))]],())))) fun m=>
 opt.ask _ (bif m.1 then Bool.false else Bool.true) (
 opt.ret _ (Sum.inl L)) (
 opt.ret _ (Sum.inr A1))))))) (fun n=>
 opt.ret _ (Sum.inl n)) (fun o=>
 opt.bnd (W7w) _ (some o) fun q=>
 opt.ret _ (Sum.inr q))))) (fun r=>
 opt.ret _ (Sum.inl r)) (fun t=>
 opt.bnd (W7w) _ (some t) fun u=>
 opt.ret _ (Sum.inr u))))) (fun v=>
 opt.ret _ (Sum.inl v)) (fun w=>
 opt.bnd (W7w) _ (some w) fun z=>
 opt.ret _ (Sum.inr z))))) (fun a1=>
 opt.ret _ a1) (fun b1=>
 opt.bnd (W7w) _ (some b1) fun c1=>
 opt.ret _ (c1.1,(C,())))) (
 opt.alt (W4w) (W7w) _ (
 opt.run ((W4w⊕W7w)) (
 opt.ask _ B4 (
 opt.bnd (W4w) _ (u2u p (c.1,(M,((p.ar .add .i64 C Q),B5)))) fun d1=>
 opt.ret _ (Sum.inl d1)) (
 opt.alt (W4w) (W7w) _ (
 opt.run ((W4w⊕W7w)) (
 opt.ask _ B3 (
 opt.need _ F<|
 opt.need _ I<|
 opt.ask _ T (
 opt.need _ V<|
 opt.bnd (W4w) _ K fun e1=>
 opt.ret _ (Sum.inl e1)) (
 opt.need _ V<|
 opt.bnd (W4w) _ P fun f1=>
 opt.ret _ (Sum.inl f1))) (
 opt.alt (W4w) (W7w) _ (
 opt.run ((W4w⊕W7w)) (
 opt.ask _ B2 (
 opt.need _ F<|
 opt.bnd (W4w) _ (v93 p (c.1,(X,(C,())))) fun g1=>
 opt.ask _ (p.cmp .neq g1.2.1 C) (
 opt.ret _ (Sum.inl g1)) (
 opt.bnd (W4w) _ (v3p p (g1.1,Y)) fun h1=>
 opt.ret _ (Sum.inl h1))) (
 opt.alt (W4w) (W7w) _ (
 opt.run ((W4w⊕W7w)) (
 opt.ask _ B1 (
 opt.bnd (W4w) _ (v3p p (c.1,Y)) fun i1=>
 opt.ret _ (Sum.inl i1)) (
 opt.need _ F<|
 opt.need _ I<|
 opt.ask _ T (
 opt.need _ N<|
 opt.need _ H<|
 opt.ask _ S (
 opt.bnd (W3w) _ (G56 p (G,(Q,([[(D.int .i64 (p.ar .sub .i64 (p.ar .add .i64 C O) U))]],())))) fun j1=>
 opt.ask _ (bif j1.1 then Bool.false else Bool.true) (
 opt.ret _ (Sum.inl L)) (
 opt.ret _ (Sum.inr A1))) (
 opt.bnd (W3w) _ (G56 p (G,(Q,([[(D.int .i64 (p.ar .sub .i64 (p.ar .add .i64 C O) C))]],())))) fun k1=>
 opt.ask _ (bif k1.1 then Bool.false else Bool.true) (
 opt.ret _ (Sum.inl L)) (
 opt.ret _ (Sum.inr A1)))) (
 opt.need _ N<|
 opt.need _ H<|
 opt.ask _ S (
 opt.bnd (W3w) _ (G56 p (G,(Q,([[(D.int .i64 (p.ar .sub .i64 (p.ar .add .i64 C C) U))]],())))) fun l1=>
 opt.ask _ (bif l1.1 then Bool.false else Bool.true) (
 opt.ret _ (Sum.inl L)) (
 opt.ret _ (Sum.inr A1))) (
 opt.bnd (W3w) _ (G56 p (G,(Q,([[(D.int .i64 (p.ar .sub .i64 (p.ar .add .i64 C C) C))]],())))) fun m1=>
 opt.ask _ (bif m1.1 then Bool.false else Bool.true) (
 opt.ret _ (Sum.inl L)) (
 opt.ret _ (Sum.inr A1))))))) (fun n1=>
 opt.ret _ (Sum.inl n1)) (fun o1=>
 opt.bnd (W7w) _ (some o1) fun q1=>
 opt.ret _ (Sum.inr q1))))) (fun r1=>
 opt.ret _ (Sum.inl r1)) (fun t1=>
 opt.bnd (W7w) _ (some t1) fun u1=>
 opt.ret _ (Sum.inr u1))))) (fun v1=>
 opt.ret _ (Sum.inl v1)) (fun w1=>
 opt.bnd (W7w) _ (some w1) fun z1=>
 opt.ret _ (Sum.inr z1))))) (fun a2=>
 opt.ret _ a2) (fun b2=>
 opt.bnd (W7w) _ (some b2) fun c2=>
 opt.ret _ (c2.1,(C,()))))))
theorem u6t:CtrOk PG u0i (v4e std):=okF vD (a:=u9d) (l:=u7d) (gC u1d (gC u1e (gC u6m (gC u6o (gC u6p (gC ok56 (gN)))))))
def u1u:Ctr:=
 ⟨61,[.list 4],[],[(.ret,⟨[(0, .tuple [.map 0, .vec 1 1])],[.map,q12m],1⟩)]⟩
def la61:List LA:=
 [⟨61,[fF,tT,fF,tT,tT,tT,tT],0,⟨⟨[(4, .map 0),(5, .clo 110 [.map 0] []),(6, .vec 1 1),(12, .list 4),(13, .int .i64),(14, .int .i64)],[.map,q12m],27⟩,[((AX.exit 0),⟨[(4, .map 0),(6, .vec 1 1)],[.map,q12m],27⟩)]⟩⟩]
def ja61:List JA:=
 []
def u8c:List CF:=
 [⟨u0i,v4e⟩]
def an61:Anns:=
 ⟨u8c,ja61,[]⟩
def v8l (p:Prim):W15w→Option (W15w⊕W30w):=
 fun a=>let A:=p.len a.2.1;let E:=a.2.2.2.2.1;let B:=p.nat E;let F:=a.2.2.1; opt.run _ (
 opt.ask _ (p.cmp .lss E a.2.2.2.1) (
 opt.need _ (p.rowOk F B [ci,ci,(CK.list 1),ci])<|
 opt.need _ (p.cmp .geq E (0:Int))<|
 opt.bnd (W4w) _ (v4e p (a.1,((p.rdI F B 0),((p.rdI F B 1),((p.rdL F B 2),((p.rdI F B 3),())))))) fun b=>let G:=[[(D.int .i64 b.2.1)]];let C:=p.app (p.cut a.2.1 0 A) (p.cut G 0 1);
 opt.need _ (p.and (p.leN (p.add 0 1) (p.len G)) (p.and (p.leN (p.add 0 A) A) (p.and (p.leN 1 1) (p.leN (p.add A 1) 1000000))))<|
 opt.need _ (p.eqN 0 0)<|
 opt.need _ (p.eqN (p.add A 1) (p.len C))<|
 opt.ret _ (Sum.inl (b.1,(C,(F,(a.2.2.2.1,((p.ar .add .i64 E (1:Int)),()))))))) (
 opt.need _ (p.eqN 0 0)<|
 opt.need _ (p.eqN A A)<|
 opt.ret _ (Sum.inr (a.1,(a.2.1,())))))
def G61:(p:Prim)→W10w→Option (W30w):=
 fun p x=>
 opt.bnd (W30w) _ (
 z5r (v8l p) ([],([],(x.1,((p.ofNat (p.len x.1)),((0:Int),())))))) fun a=>
 opt.need _ (p.eqN 0 0)<|
 opt.need _ (p.eqN (p.len a.2.1) (p.len a.2.1))<|
 opt.ret _ a
theorem u9q:CtrOk PG u1u (G61 std):=okF vD (a:=an61) (l:=la61) (gC u6t (gN))
def u4r:Ctr:=
 ⟨21,[.list 4],[],[(.ret,⟨[(0, .tuple [.vec 0 1, .int .i64])],[q12m],1⟩)]⟩
def la21:List LA:=
 []
def ja21:List JA:=
 []
def u8p:List CF:=
 [⟨u1u,G61⟩,⟨w8g,F19⟩]
def an21:Anns:=
 ⟨u8p,ja21,[]⟩
def G21:(p:Prim)→W10w→Option (W34w):=
 fun p x=>
 opt.bnd (W0w) _ (G19 p x) fun a=>
 opt.ask _ (p.cmp .neq a.1 (0:Int)) (
 opt.ret _ ([],a)) (
 opt.bnd (W30w) _ (G61 p x) fun b=>
 opt.need _ (p.eqN 0 0)<|
 opt.need _ (p.eqN (p.len b.2.1) (p.len b.2.1))<|
 opt.ret _ (b.2.1,((0:Int),())))
theorem ok21:CtrOk PG u4r (G21 std):=okF vD (a:=an21) (l:=la21) (gC u9q (gC v2d (gN)))
end Go.Am
end
section
namespace Go.Am
open D12
variable {fl fl':List Int→Bool}
def u2s (l:List Cd):Bool:=!x8g l&&decide (z4y l=0)
theorem u5l (l:List Cd):G41 std (z0p fl l,())=some (u2s l,()):=by
 unfold G41 u2s
 cases h:x8g l with
 |true=>simp only [z2d,z2e,z4b,Int.reduceLT,Int.reduceEq,Int.reduceLE,w3t,h]; simp
 |false=>
  simp only [z2d,z2e,z4b,Int.reduceLT,Int.reduceEq,Int.reduceLE,w3t,h,w8x l (x0p h).1]
def v4g (a b:List Cd):Int:=if z4y a≠0 then z4y a else z4y b
theorem u5a (a b:List Cd) (ha:Few a) (hb:Few b):G82 std (z0p fl a,(z0p fl' b,()))=some (v4g a b,()):=by
 unfold G82 v4g
 by_cases h:z4y a=0
 ·simp only [z2d,z2e,z4b,Int.reduceLT,Int.reduceEq,Int.reduceLE,w8x a ha,w8x b hb,h]; simp
 ·simp only [z2d,z2e,z4b,Int.reduceLT,Int.reduceEq,Int.reduceLE,w8x a ha,w8x b hb,h]; simp [h]
end Go.Am
end
section
namespace Go.Am
open D12
variable {fl fl':List Int→Bool}
theorem u5d (a b:List Cd) (ha:Few a) (hb:Few b):G78 std (z0p fl a,(z0p fl' b,()))=some (v4g a b,()):=by
 unfold G78 v4g
 by_cases h:z4y a=0
 ·simp only [z2d,z2e,z4b,Int.reduceLT,Int.reduceEq,Int.reduceLE,w3q a ha,w3q b hb,h]; simp
 ·simp only [z2d,z2e,z4b,Int.reduceLT,Int.reduceEq,Int.reduceLE,w3q a ha,w3q b hb,h]; simp [h]
end Go.Am
end
noncomputable section
namespace Go.Am
def u4g:Ctr:=
 ⟨64,[.map 0],[.map],[(.ret,⟨[(0, .clo 115 [] [.bptr 1 0])],[.map, .box [.map 0]],1⟩)]⟩
def la64:List LA:=
 []
def ja64:List JA:=
 []
def u8b:List CF:=
 []
def an64:Anns:=
 ⟨u8b,ja64,[]⟩
def G64:(p:Prim)→W7w→Option (W7w):=
 fun p x=>
 opt.ret _ x
theorem ok64:CtrOk PG u4g (G64 std):=okF vE (a:=an64) (l:=la64) (gN)
def u4q:Ctr:=
 ⟨23,[.list 4],[],[(.ret,⟨[(0, .tuple [.vec 0 4, .int .i64])],[q8m],1⟩)]⟩
def la23:List LA:=
 [⟨23,[fF,tT,fF,tT,tT,tT,tT],0,⟨⟨[(5, .map 0),(7, .vec 1 4),(24, .list 1),(25, .int .i64),(26, .int .i64)],[.map,q8m],40⟩,[((AX.exit 0),⟨[(7, .vec 0 4)],[q8m],40⟩)]⟩⟩]
def ja23:List JA:=
 [⟨23,[fF,tT,tT,fF,fF,tT,fF,tT,tT,tT,tT],0,[(AX.normal,⟨[(5, .map 0),(7, .vec 1 4),(24, .list 1),(25, .int .i64),(26, .int .i64)],[.map,q8m],40⟩)]⟩]
def u8o:List CF:=
 [⟨w16,F63⟩,⟨u4g,G64⟩,⟨u1u,G61⟩,⟨x4u,v2w⟩,⟨w8g,F19⟩]
def an23:Anns:=
 ⟨u8o,ja23,[]⟩
def v8q (p:Prim):W15w→Option (W15w⊕W10w):=
 fun a=>let M:=[SK.i];let I:=a.2.2.2.2.1;let B:=D.int .i64 (p.rdI a.2.2.1 (p.nat I) 0);let A:=[[(D.int .i64 (p.mI a.1 M Bool.false B 0)),(D.int .i64 (p.mI a.1 M Bool.false B 1)),(D.int .i64 (p.mI a.1 M Bool.false B 2)),(D.bool (p.mB a.1 M Bool.false B 3))]];let H:=D.int .i64 (0:Int);let C:=[[H,H,H,(D.bool Bool.false)]];let E:=p.len a.2.1;let F:=p.and (p.leN (p.add 0 E) E) (p.and (p.leN 1 1) (p.leN (p.add E 1) 1000000));let G:=p.cut a.2.1 0 E;let J:=p.eqN 0 0;let K:=p.app G (p.cut C 0 1);let L:=p.app G (p.cut A 0 1); opt.run _ (
 opt.ask _ (p.cmp .lss I a.2.2.2.1) (
 opt.bnd (W15w) _ (
 opt.run (W15w) (
 opt.need _ (p.rowOk a.2.2.1 (p.nat I) [ci])<|
 opt.need _ (p.cmp .geq I (0:Int))<|
 opt.need _ (p.mOk a.1 M Bool.false B Bool.true [ci,ci,ci,CK.bool])<|
 opt.ask _ (p.mhas a.1 M Bool.false B) (
 opt.need _ (p.and (p.leN (p.add 0 1) (p.len A)) F)<|
 opt.need _ J<|
 opt.need _ (p.eqN (p.add E 1) (p.len L))<|
 opt.ret _ (a.1,(L,a.2.2))) (
 opt.need _ (p.and (p.leN (p.add 0 1) (p.len C)) F)<|
 opt.need _ J<|
 opt.need _ (p.eqN (p.add E 1) (p.len K))<|
 opt.ret _ (a.1,(K,a.2.2))))) fun b=>
 opt.need _ J<|
 opt.need _ (p.eqN (p.len b.2.1) (p.len b.2.1))<|
 opt.ret _ (Sum.inl (b.1,(b.2.1,(b.2.2.1,(b.2.2.2.1,((p.ar .add .i64 b.2.2.2.2.1 (1:Int)),()))))))) (
 opt.need _ J<|
 opt.need _ (p.eqN E E)<|
 opt.ret _ (Sum.inr (a.2.1,()))))
def G23:(p:Prim)→W10w→Option (W34w):=
 fun p x=>
 opt.bnd (W0w) _ (G19 p x) fun a=>
 opt.ask _ (p.cmp .neq a.1 (0:Int)) (
 opt.ret _ ([],a)) (
 opt.bnd (W30w) _ (G61 p x) fun b=>
 opt.bnd (W7w) _ (G64 p (b.1,())) fun c=>
 opt.bnd (W30w) _ (G63 p c) fun d=>
 opt.bnd (W10w) _ (v1y p d.2) fun e=>
 opt.bnd (W10w) _ (
 z5r (v8q p) (d.1,([],(e.1,((p.ofNat (p.len e.1)),((0:Int),())))))) fun f=>
 opt.need _ (p.eqN 0 0)<|
 opt.need _ (p.eqN (p.len f.1) (p.len f.1))<|
 opt.ret _ (f.1,((0:Int),())))
theorem ok23:CtrOk PG u4q (G23 std):=okF vE (a:=an23) (l:=la23) (gC ok63 (gC ok64 (gC u9q (gC w94 (gC v2d (gN))))))
end Go.Am
end
noncomputable section
namespace Go.Am
def ctr7:Ctr:=
 ⟨7,[.list 4, .list 1],[],[(.ret,⟨[(0, .bool)],[],1⟩)]⟩
def la7:List LA:=
 [⟨7,[fF,tT,fF,tT,tT,tT,tT,tT,tT,tT,tT,tT,tT,tT,tT],0,⟨⟨[(0, .list 4),(5, .list 4),(6, .vec 0 1),(8, .vec 1 1),(18, .vec 2 4),(22, .int .i64)],[q12m,q12m,q5m],207⟩,[(AX.ret,⟨[(4, .bool)],[],207⟩),((AX.exit 0),⟨[(0, .list 4),(5, .list 4),(18, .vec 0 4)],[q5m],207⟩)]⟩⟩,
 ⟨7,[fF,tT,fF,tT,tT,tT,tT,tT,tT,tT,tT,tT,tT,tT,tT,tT,tT],0,⟨⟨[(5, .list 4),(18, .vec 0 4),(23, .int .i64)],[q5m],207⟩,[(AX.ret,⟨[(4, .bool)],[],207⟩),((AX.exit 2),⟨[],[],207⟩)]⟩⟩]
def ja7:List JA:=
 [⟨7,[fF,fF,tT,tT,tT,tT,tT,tT,tT,tT,tT,tT,tT,tT,tT],0,[(AX.normal,⟨[(5, .list 4),(18, .vec 0 4),(174, .bool)],[q5m],207⟩)]⟩,
 ⟨7,[fF,fF,tT],0,[(AX.normal,⟨[(0, .list 4),(1, .list 1),(31, .bool)],[],207⟩)]⟩,
 ⟨7,[fF,fF,tT,tT,tT,tT,tT,tT,tT,tT,tT,tT,tT],0,[(AX.normal,⟨[(0, .list 4),(5, .list 4),(6, .vec 0 1),(8, .vec 1 1),(18, .vec 2 4),(137, .bool)],[q12m,q12m,q5m],207⟩)]⟩,
 ⟨7,[tT,fF,fF,tT,fF,fF,tT,fF,tT,tT,tT,tT,tT,tT,tT,tT,tT,tT,tT,tT,tT,tT],0,[(AX.ret,⟨[(4, .bool)],[],207⟩),(AX.normal,⟨[(5, .list 4),(18, .vec 0 4),(23, .int .i64)],[q5m],207⟩)]⟩]
def gam7:List CF:=
 [⟨u4n,G29⟩,⟨u4o,G27⟩,⟨u4q,G23⟩,⟨u4r,G21⟩,⟨u4h,G42⟩,⟨u4j,G36⟩,⟨u4k,G35⟩,⟨u1w,G43⟩,⟨u4l,G34⟩,⟨u4m,G33⟩,⟨u4p,G26⟩,⟨w18,F16⟩,⟨u4i,G41⟩]
def an7:Anns:=
 ⟨gam7,ja7,[⟨7,[false,true,true,true],⟨[(0, .list 4),(5, .list 4)],[],207⟩⟩]⟩
def u2t (p:Prim):W13w→Option (W13w⊕(W3w⊕Unit)):=
 fun a=>let E:=p.cmp .geq a.2.2.1 (0:Int);let F:=p.cmp .lss a.2.2.1 (p.ofNat (p.len a.1));let A:=bif E then F else Bool.false;let B:=p.nat a.2.2.1;let C:=[ci,ci,(CK.list 1),ci];let G:=p.add 0 B; opt.run _ (
 opt.ask _ F (
 opt.need _ A<|
 opt.need _ (p.rowOk a.1 G C)<|
 opt.need _ (p.rowOk a.2.1 B C)<|
 opt.need _ E<|
 opt.alt (W3w) (W13w) _ (
 opt.run ((W3w⊕W13w)) (
 opt.ask _ (p.cmp .neq (p.rdI a.1 G 0) (p.rdI a.2.1 B 0)) (
 opt.need _ A<|
 opt.need _ (p.rowOk a.1 G C)<|
 opt.need _ (p.rowOk a.2.1 B C)<|
 opt.need _ E<|
 opt.ask _ (p.cmp .lss (p.rdI a.1 G 0) (p.rdI a.2.1 B 0)) (
 opt.bnd (W3w) _ (G16 p ()) fun b=>
 opt.ret _ (Sum.inl b)) (
 opt.ret _ (Sum.inl (Bool.false,())))) (
 opt.need _ (p.eqN 0 0)<|
 opt.need _ (p.eqN (p.len a.1) (p.len a.1))<|
 opt.ret _ (Sum.inr a)))) (fun c=>
 opt.ret _ (Sum.inr (Sum.inl c))) (fun d=>
 opt.bnd (W13w) _ (some d) fun e=>
 opt.need _ (p.eqN 0 0)<|
 opt.need _ (p.eqN (p.len e.1) (p.len e.1))<|
 opt.ret _ (Sum.inl (e.1,(e.2.1,((p.ar .add .i64 e.2.2.1 (1:Int)),())))))) (
 opt.ret _ (Sum.inr (Sum.inr ()))))
def u4t (p:Prim):(LD×(LD×(LD×W13w)))→Option ((LD×(LD×(LD×W13w)))⊕(W3w⊕(LD×W22w))):=
 fun a=>let A:=a.2.2.2.2.2.1;let B:=p.len a.2.2.1;let C:=a.2.2.2.1;let E:=p.eqN 0 0;let F:=p.len a.2.1;let G:=p.cmp .geq A (0:Int);let H:=p.nat A; opt.run _ (
 opt.ask _ (p.cmp .lss A (p.ofNat (p.len C))) (
 opt.need _ (bif G then (p.cmp .lss A (p.ofNat (p.len a.1))) else Bool.false)<|
 opt.need _ (p.rowOk a.1 (p.add 0 H) [ci])<|
 opt.need _ (p.rowOk C H [ci,ci,(CK.list 1),ci])<|
 opt.need _ G<|
 opt.bnd (W0w) _ (G43 p (a.2.2.2.2.1,((p.rdI C H 0),()))) fun b=>
 opt.need _ (bif (p.cmp .geq b.1 (0:Int)) then (p.cmp .lss b.1 (p.ofNat F)) else Bool.false)<|
 opt.need _ (p.rowOk a.2.1 (p.add 0 (p.nat b.1)) [ci])<|
 opt.ask _ (p.cmp .neq (p.rdI a.1 (p.add 0 H) 0) (p.rdI a.2.1 (p.add 0 (p.nat b.1)) 0)) (
 opt.ret _ (Sum.inr (Sum.inl (Bool.false,())))) (
 opt.need _ E<|
 opt.need _ (p.eqN (p.len a.1) (p.len a.1))<|
 opt.need _ E<|
 opt.need _ (p.eqN F F)<|
 opt.need _ E<|
 opt.need _ (p.eqN B B)<|
 opt.ret _ (Sum.inl (a.1,(a.2.1,(a.2.2.1,(C,(a.2.2.2.2.1,((p.ar .add .i64 A (1:Int)),()))))))))) (
 opt.need _ E<|
 opt.need _ (p.eqN B B)<|
 opt.ret _ (Sum.inr (Sum.inr (a.2.2.1,(C,(a.2.2.2.2.1,())))))))
def G7:(p:Prim)→W22w→Option (W3w):=
 fun p x=>let B:=p.eqN 0 0;let I:=(0:Int);
 opt.bnd (W36w) _ (
 opt.run (W36w) (
 opt.bnd (W3w) _ (G41 p (x.1,())) fun a=>
 opt.ask _ (bif a.1 then Bool.false else Bool.true) (
 opt.ret _ (x.1,(x.2.1,(Bool.true,())))) (
 opt.ret _ (x.1,(x.2.1,((p.cmp .gtr (p.ofNat (p.len x.2.1)) (200:Int)),())))))) fun b=>let N:=(b.1,());
 opt.ask _ b.2.2.1 (
 opt.bnd (W3w) _ (G16 p ()) fun c=>
 opt.ret _ c) (
 opt.bnd (W9w) _ (G42 p (b.1,(b.2.1,()))) fun d=>let G:=p.cut d.1 d.2.1 d.2.2.1;
 opt.need _ (p.leN (p.add d.2.1 d.2.2.1) (p.len d.1))<|
 opt.bnd (W34w) _ (G21 p N) fun e=>let F:=p.eqN (p.len e.1) (p.len e.1);
 opt.bnd (W34w) _ (G21 p (G,())) fun f=>let E:=p.eqN (p.len f.1) (p.len f.1);
 opt.bnd (W34w) _ (G23 p N) fun g=>
 opt.bnd (W34w) _ (G23 p (G,())) fun h=>
 opt.bnd (W34w) _ (G27 p N) fun i=>
 opt.bnd (W34w) _ (G27 p (G,())) fun j=>
 opt.bnd (W34w) _ (G29 p N) fun k=>let A:=(e.1,(f.1,(k.1,(b.1,(G,(Bool.true,()))))));let K:=p.len k.1;let C:=p.eqN K K;
 opt.bnd (W34w) _ (G29 p (G,())) fun l=>
 opt.bnd ((LD×(LD×(LD×W36w)))) _ (
 opt.run ((LD×(LD×(LD×W36w)))) (
 opt.ask _ (p.cmp .neq e.2.1 I) (
 opt.need _ B<|
 opt.need _ F<|
 opt.need _ B<|
 opt.need _ E<|
 opt.need _ B<|
 opt.need _ C<|
 opt.ret _ A) (
 opt.ask _ (p.cmp .neq f.2.1 I) (
 opt.need _ B<|
 opt.need _ F<|
 opt.need _ B<|
 opt.need _ E<|
 opt.need _ B<|
 opt.need _ C<|
 opt.ret _ A) (
 opt.ask _ (p.cmp .neq g.2.1 I) (
 opt.need _ B<|
 opt.need _ F<|
 opt.need _ B<|
 opt.need _ E<|
 opt.need _ B<|
 opt.need _ C<|
 opt.ret _ A) (
 opt.ask _ (p.cmp .neq h.2.1 I) (
 opt.need _ B<|
 opt.need _ F<|
 opt.need _ B<|
 opt.need _ E<|
 opt.need _ B<|
 opt.need _ C<|
 opt.ret _ A) (
 opt.ask _ (p.cmp .neq i.2.1 I) (
 opt.need _ B<|
 opt.need _ F<|
 opt.need _ B<|
 opt.need _ E<|
 opt.need _ B<|
 opt.need _ C<|
 opt.ret _ A) (
 opt.ask _ (p.cmp .neq j.2.1 I) (
 opt.need _ B<|
 opt.need _ F<|
 opt.need _ B<|
 opt.need _ E<|
 opt.need _ B<|
 opt.need _ C<|
 opt.ret _ A) (
 opt.ask _ (p.cmp .neq k.2.1 I) (
 opt.need _ B<|
 opt.need _ F<|
 opt.need _ B<|
 opt.need _ E<|
 opt.need _ B<|
 opt.need _ C<|
 opt.ret _ A) (
 opt.ask _ (p.cmp .neq l.2.1 I) (
 opt.need _ B<|
 opt.need _ F<|
 opt.need _ B<|
 opt.need _ E<|
 opt.need _ B<|
 opt.need _ C<|
 opt.ret _ A) (
 opt.ask _ (p.cmp .neq (p.ofNat (p.len e.1)) (p.ofNat (p.len b.1))) (
 opt.need _ B<|
 opt.need _ F<|
 opt.need _ B<|
 opt.need _ E<|
 opt.need _ B<|
 opt.need _ C<|
 opt.ret _ A) (
 opt.ask _ (p.cmp .neq (p.ofNat (p.len f.1)) (p.ofNat (p.len G))) (
 opt.need _ B<|
 opt.need _ F<|
 opt.need _ B<|
 opt.need _ E<|
 opt.need _ B<|
 opt.need _ C<|
 opt.ret _ A) (
 opt.need _ (p.and (p.leN (p.add 0 (p.len g.1)) (p.len g.1)) (p.and (p.leN (p.add 0 (p.len h.1)) (p.len h.1)) Bool.true))<|
 opt.bnd (W3w) _ (G26 p ((p.cut g.1 0 (p.len g.1)),((p.cut h.1 0 (p.len h.1)),()))) fun m=>
 opt.ask _ (bif m.1 then Bool.false else Bool.true) (
 opt.need _ B<|
 opt.need _ F<|
 opt.need _ B<|
 opt.need _ E<|
 opt.need _ B<|
 opt.need _ C<|
 opt.ret _ A) (
 opt.need _ (p.and (p.leN (p.add 0 (p.len i.1)) (p.len i.1)) (p.and (p.leN (p.add 0 (p.len j.1)) (p.len j.1)) Bool.true))<|
 opt.bnd (W3w) _ (G33 p ((p.cut i.1 0 (p.len i.1)),((p.cut j.1 0 (p.len j.1)),()))) fun n=>
 opt.ask _ (bif n.1 then Bool.false else Bool.true) (
 opt.need _ B<|
 opt.need _ F<|
 opt.need _ B<|
 opt.need _ E<|
 opt.need _ B<|
 opt.need _ C<|
 opt.ret _ A) (
 opt.need _ (p.and (p.leN (p.add 0 K) K) (p.and (p.leN (p.add 0 (p.len l.1)) (p.len l.1)) Bool.true))<|
 opt.bnd (W3w) _ (G34 p ((p.cut k.1 0 K),((p.cut l.1 0 (p.len l.1)),()))) fun o=>
 opt.need _ B<|
 opt.need _ F<|
 opt.need _ B<|
 opt.need _ E<|
 opt.need _ B<|
 opt.need _ C<|
 opt.ret _ (e.1,(f.1,(k.1,(b.1,(G,((bif o.1 then Bool.false else Bool.true),())))))))))))))))))))) fun q=>
 opt.ask _ q.2.2.2.2.2.1 (
 opt.ret _ (Bool.false,())) (
 opt.need _ B<|
 opt.need _ (p.eqN (p.len q.1) (p.len q.1))<|
 opt.need _ B<|
 opt.need _ (p.eqN (p.len q.2.1) (p.len q.2.1))<|
 opt.need _ B<|
 opt.need _ (p.eqN (p.len q.2.2.1) (p.len q.2.2.1))<|
 opt.alt (W3w) ((LD×W22w)) _ (
 z5r (u4t p) (q.1,(q.2.1,(q.2.2.1,(q.2.2.2.1,(q.2.2.2.2.1,(I,()))))))) (fun r=>
 opt.ret _ r) (fun t=>
 opt.bnd ((LD×W22w)) _ (some t) fun u=>let H:=p.len u.1;let J:=p.and Bool.true (p.and (p.leN (p.add 0 H) H) Bool.true);let L:=(u.1,(u.2.2.1,(Bool.true,())));let M:=(u.2.1,((p.cut u.1 0 H),()));
 opt.bnd (W36w) _ (
 opt.run (W36w) (
 opt.bnd (W0w) _ (G35 p u.2) fun v=>
 opt.ask _ (p.cmp .neq v.1 I) (
 opt.need _ B<|
 opt.need _ (p.eqN H H)<|
 opt.ret _ L) (
 opt.need _ J<|
 opt.bnd (W0w) _ (G35 p M) fun w=>
 opt.ask _ (p.cmp .neq w.1 I) (
 opt.need _ B<|
 opt.need _ (p.eqN H H)<|
 opt.ret _ L) (
 opt.need _ J<|
 opt.bnd (W0w) _ (G36 p M) fun z=>
 opt.need _ B<|
 opt.need _ (p.eqN H H)<|
 opt.ret _ (u.1,(u.2.2.1,((p.cmp .neq z.1 I),()))))))) fun a1=>
 opt.ask _ a1.2.2.1 (
 opt.ret _ (Bool.false,())) (
 opt.need _ B<|
 opt.need _ (p.eqN (p.len a1.1) (p.len a1.1))<|
 opt.alt (W3w) (Unit) _ (
 z5r (u2t p) (a1.1,(a1.2.1,(I,())))) (fun b1=>
 opt.ret _ b1) (fun c1=>
 opt.bnd (Unit) _ (some c1) fun d1=>
 opt.bnd (W3w) _ (G16 p ()) fun e1=>
 opt.ret _ e1)))))
theorem ok7:CtrOk PG ctr7 (G7 std):=okF vE (a:=an7) (l:=la7) (gC ok29 (gC ok27 (gC ok23 (gC ok21 (gC ok42 (gC ok36 (gC ok35 (gC u9s (gC ok34 (gC ok33 (gC ok26 (gC ok16 (gC ok41 (gN))))))))))))))
end Go.Am
end
section
namespace Go.Am
namespace D12
structure Sg where
 a:Nat
 b:Nat
 ha:a<2 ^ 64
 hb:b<2 ^ 64
def Sg.has (s:Sg) (i:Nat):Bool:=if i<64 then s.a.testBit i else s.b.testBit (i - 64)
def Sg.none:Sg:=⟨0,0,by omega,by omega⟩
def Sg.wth (s:Sg) (k:Nat):Sg:=
 if h:k<64 then ⟨s.a|||2 ^ k,s.b,Nat.or_lt_two_pow s.ha (eDv (by omega) h),s.hb⟩
 else if h:k<128 then ⟨s.a,s.b|||2 ^ (k - 64),s.ha,Nat.or_lt_two_pow s.hb (eDv (by omega) (by omega))⟩
 else s
def Sg.or (s t:Sg):Sg:=⟨s.a|||t.a,s.b|||t.b,Nat.or_lt_two_pow s.ha t.ha,Nat.or_lt_two_pow s.hb t.hb⟩
def Sg.and (s t:Sg):Sg:=⟨s.a&&&t.a,s.b&&&t.b,Nat.lt_of_le_of_lt Nat.and_le_left s.ha,Nat.lt_of_le_of_lt Nat.and_le_left s.hb⟩
theorem Sg.has_none (i:Nat):Sg.none.has i=false:=by
 unfold Sg.has Sg.none; split<;>exact Nat.zero_testBit _
theorem Sg.has_wth (s:Sg) {k:Nat} (hk:k<128) (i:Nat):(s.wth k).has i=(s.has i||decide (i=k)):=by
 unfold Sg.wth
 by_cases h:k<64
 ·rw [dif_pos h]
  unfold Sg.has
  simp only
  by_cases hi:i<64
  ·rw [if_pos hi,if_pos hi,Nat.testBit_or,Nat.testBit_two_pow]
   congr 1
   exact decide_eq_decide.2 ⟨fun h=>h.symm,fun h=>h.symm⟩
  ·rw [if_neg hi,if_neg hi]
   have:¬ i=k:=by omega
   simp [this]
 ·rw [dif_neg h,dif_pos hk]
  unfold Sg.has
  simp only
  by_cases hi:i<64
  ·rw [if_pos hi,if_pos hi]
   have:¬ i=k:=by omega
   simp [this]
  ·rw [if_neg hi,if_neg hi,Nat.testBit_or,Nat.testBit_two_pow]
   congr 1
   exact decide_eq_decide.2 (by omega)
theorem Sg.has_and (s t:Sg) (i:Nat):(s.and t).has i=(s.has i&&t.has i):=by
 unfold Sg.has Sg.and
 simp only
 split<;>exact Nat.testBit_and ..
theorem Sg.ext_has {s t:Sg} (h:∀ i,i<128→s.has i=t.has i):s.a=t.a∧s.b=t.b:=by
 constructor
 ·refine Nat.eq_of_testBit_eq fun i=>?_
  by_cases hi:i<64
  ·have:=h i (by omega)
   unfold Sg.has at this
   rwa [if_pos hi,if_pos hi] at this
  ·have p:2 ^ 64≤2 ^ i:=Nat.pow_le_pow_right (by omega) (by omega)
   rw [Nat.testBit_lt_two_pow (eAn s.ha p),Nat.testBit_lt_two_pow (eAn t.ha p)]
 ·refine Nat.eq_of_testBit_eq fun i=>?_
  by_cases hi:i<64
  ·have:=h (i+64) (by omega)
   unfold Sg.has at this
   rwa [if_neg (by omega),if_neg (by omega),Nat.add_sub_cancel] at this
  ·have p:2 ^ 64≤2 ^ i:=Nat.pow_le_pow_right (by omega) (by omega)
   rw [Nat.testBit_lt_two_pow (eAn s.hb p),Nat.testBit_lt_two_pow (eAn t.hb p)]
theorem Sg.and_sub {s t:Sg}:((s.and t).a=s.a∧(s.and t).b=s.b)↔∀ i,i<128→s.has i=true→t.has i=true:=by
 constructor
 ·rintro ⟨h1,h2⟩ i hi h
  have e:(s.and t).has i=s.has i:=by unfold Sg.has; rw [h1,h2]
  rw [Sg.has_and,h] at e
  simpa using e
 ·intro h
  refine Sg.ext_has fun i hi=>?_
  rw [Sg.has_and]
  cases hs:s.has i with
  |false=>rfl
  |true=>rw [h i hi hs]; rfl
end D12
theorem v50 {n:Nat} (h:n<2 ^ 64):IntKind.u64.wrap (n:Int)=(n:Int):=by
 have e:IntKind.u64.wrap (n:Int)=(n:Int) % 18446744073709551616:=by
  unfold IntKind.wrap
  simp [IntKind.signed,IntKind.bits]
 rw [e]
 omega
theorem ofI (n:Nat):BitVec.ofInt 64 (n:Int)=BitVec.ofNat 64 n:=by simp
theorem u9k {a b:Nat} (ha:a<2 ^ 64) (hb:b<2 ^ 64):std.ar .or .u64 (a:Int) (b:Int)=((a|||b:Nat):Int):=by
 show IntKind.u64.wrap (((BitVec.ofInt 64 (a:Int)|||BitVec.ofInt 64 (b:Int)).toNat:Nat):Int)=_
 rw [ofI,ofI,BitVec.toNat_or,BitVec.toNat_ofNat,BitVec.toNat_ofNat,eCy ha,eCy hb,v50 (Nat.or_lt_two_pow ha hb)]
theorem u0t {a b:Nat} (ha:a<2 ^ 64) (hb:b<2 ^ 64):std.ar .and .u64 (a:Int) (b:Int)=((a&&&b:Nat):Int):=by
 show IntKind.u64.wrap (((BitVec.ofInt 64 (a:Int)&&&BitVec.ofInt 64 (b:Int)).toNat:Nat):Int)=_
 rw [ofI,ofI,BitVec.toNat_and,BitVec.toNat_ofNat,BitVec.toNat_ofNat,eCy ha,eCy hb,v50 (Nat.lt_of_le_of_lt Nat.and_le_left ha)]
theorem u3a {i:Nat} (h:i<64):std.ar .shl .u64 1 (i:Int)=((2 ^ i:Nat):Int):=by
 show IntKind.u64.wrap (1*2 ^ (min ((i:Int)).toNat 64))=_
 have:min ((i:Int)).toNat 64=i:=by omega
 rw [this,Int.one_mul]
 have e:((2:Int) ^ i)=((2 ^ i:Nat):Int):=by simp
 rw [e,v50 (eDv (by omega) h)]
theorem u3b {a i:Nat} (ha:a<2 ^ 64) (h:i<64):std.cmp .eql (std.ar .and .u64 (std.ar .shr .u64 (a:Int) (i:Int)) 1) 1=a.testBit i:=by
 have e1:std.ar .shr .u64 (a:Int) (i:Int)=((a / 2 ^ i:Nat):Int):=by
  show Int.fdiv (a:Int) (2 ^ (min ((i:Int)).toNat 64))=_
  have:min ((i:Int)).toNat 64=i:=by omega
  rw [this]
  have e:((2:Int) ^ i)=((2 ^ i:Nat):Int):=by simp
  rw [e,Int.fdiv_eq_ediv_of_nonneg _ (Int.natCast_nonneg _)]
  exact (Int.natCast_ediv ..).symm
 have hd:a / 2 ^ i<2 ^ 64:=Nat.lt_of_le_of_lt (Nat.div_le_self ..) ha
 rw [e1,show (1:Int)=((1:Nat):Int) from rfl,u0t hd (by omega),Nat.and_one_is_mod,v51,Nat.testBit_eq_decide_div_mod_eq]
 exact decide_eq_decide.2 (by omega)
theorem u3n {i:Nat} (h:i<128):std.ar .quo .i64 (i:Int) 64=if i<64 then 0 else 1:=by
 rw [v4l,Int.tdiv_eq_ediv_of_nonneg (by omega),w21 _ (by omega) (by omega)]
 split<;>omega
theorem u3m {i:Nat} (h:i<128):std.ar .rem .i64 (i:Int) 64=((if i<64 then i else i - 64:Nat):Int):=by
 rw [v4k,Int.tmod_eq_emod_of_nonneg (by omega)]
 split<;>omega
end Go.Am
end
section
namespace Go.Am
section
variable {κ ν:Type} [DecidableEq κ]
def v5y:List (κ×ν)→κ→Nat→Option (Nat×ν)
 |[],_,_=>none
 |(k',v)::r,k,i=>if k=k' then some (i,v) else v5y r k (i+1)
def z22:List (κ×ν)→κ→Option ν
 |[],_=>none
 |(k',v)::r,k=>if k=k' then some v else z22 r k
def v90:List (κ×ν)→κ→ν→List (κ×ν)
 |[],_,_=>[]
 |(k',w)::r,k,v=>if k=k' then (k,v)::r else (k',w)::v90 r k v
def v8r:List (κ×ν)→κ→List (κ×ν)
 |[],_=>[]
 |(k',w)::r,k=>if k=k' then r else (k',w)::v8r r k
def v4b (m:List (κ×ν)) (k:κ) (v:ν):List (κ×ν):=match z22 m k with
 |some _=>v90 m k v
 |none=>m++[(k,v)]
theorem v3j (k:κ):∀ (m:List (κ×ν)) (i:Nat),(v5y m k i).map (·.2)=z22 m k
 |[],i=>rfl
 |(k',v)::r,i=>by
  simp only [v5y,z22]
  split
  ·rfl
  ·exact v3j k r (i+1)
theorem v6d {k:κ}:∀ {m:List (κ×ν)} {i j:Nat} {v:ν},v5y m k i=some (j,v)→i≤j∧j<i+m.length
 |(k',w)::r,i,j,v,h=>by
  simp only [v5y] at h
  split at h
  ·cases h; simp
  ·have:=v6d h; simp only [eBi]; omega
theorem v6z {k:κ}:∀ {m:List (κ×ν)} {i j:Nat} {v:ν},v5y m k i=some (j,v)→∀ w,m.set (j - i) (k,w)=v90 m k w
 |(k',u)::r,i,j,v,h,w=>by
  simp only [v5y] at h
  simp only [v90]
  split at h
  ·rename_i e; cases h; rw [if_pos e,Nat.sub_self]; rfl
  ·rename_i e
   have:=v6d h
   rw [if_neg e, ←v6z h w]
   have:j - i=(j - (i+1))+1:=by omega
   rw [this]; rfl
theorem v60 {k:κ}:∀ {m:List (κ×ν)} {i j:Nat} {v:ν},v5y m k i=some (j,v)→m.eraseIdx (j - i)=v8r m k
 |(k',u)::r,i,j,v,h=>by
  simp only [v5y] at h
  simp only [v8r]
  split at h
  ·rename_i e; cases h; rw [if_pos e,Nat.sub_self]; rfl
  ·rename_i e
   have:=v6d h
   rw [if_neg e, ←v60 h]
   have:j - i=(j - (i+1))+1:=by omega
   rw [this]; rfl
theorem v6w (k:κ) (v:ν) (k':κ):∀ m:List (κ×ν),z22 (v90 m k v) k'=if k'=k then (z22 m k).map fun _=>v else z22 m k'
 |[]=>by simp [v90,z22]
 |(x,w)::r=>by
  have ih:=v6w k v k' r
  simp only [v90]
  by_cases h:k=x
  ·rw [if_pos h]; subst h
   by_cases h':k'=k
   ·simp [z22,h']
   ·simp [z22,h']
  ·rw [if_neg h]
   simp only [z22]
   rw [ih]
   by_cases h':k'=x
   ·subst h'
    rw [if_pos rfl,if_neg (fun e=>h e.symm)]
    simp
   ·rw [if_neg h']
    by_cases h'':k'=k
    ·subst h''; rw [if_pos rfl,if_pos rfl,if_neg h]
    ·rw [if_neg h'',if_neg h'',if_neg h']
theorem v4a (k':κ) (l:List (κ×ν)):∀ m:List (κ×ν),z22 (m++l) k'=(z22 m k').or (z22 l k')
 |[]=>by simp [z22]
 |(x,w)::r=>by
  simp only [eDr,z22,v4a k' l r]
  split<;>rfl
theorem v28 (m:List (κ×ν)) (k:κ) (v:ν) (k':κ):z22 (v4b m k v) k'=if k'=k then some v else z22 m k':=by
 unfold v4b
 cases h:z22 m k with
 |some w=>simp only [v6w,h,eBh]
 |none=>
  simp only [v4a,z22]
  by_cases e:k'=k
  ·subst e; simp [h]
  ·simp [e]
theorem v3i {k:κ}:∀ {m:List (κ×ν)},z22 m k=none↔k∉m.map (·.1)
 |[]=>by simp [z22]
 |(x,w)::r=>by
  simp only [z22,eDc,eAz,not_or]
  split
  ·rename_i h; simp [h]
  ·rename_i h; simp only [v3i (m:=r)]; simp [h]
theorem v61 (k:κ):∀ (m:List (κ×ν)),((v8r m k).map (·.1)).Sublist (m.map (·.1))
 |[]=> .slnil
 |(x,w)::r=>by
  simp only [v8r]
  split
  ·exact List.sublist_cons_self _ _
  ·exact (v61 k r).cons_cons _
theorem v6y {k:κ} (k':κ):∀ {m:List (κ×ν)},(m.map (·.1)).Nodup→z22 (v8r m k) k'=if k'=k then none else z22 m k'
 |[],_=>by simp [v8r,z22]
 |(x,w)::r,h=>by
  simp only [eDc,eDt] at h
  have ih:=v6y (k:=k) k' h.2
  simp only [v8r]
  by_cases e:k=x
  ·rw [if_pos e]; subst e
   simp only [z22]
   by_cases e':k'=k
   ·subst e'; rw [if_pos rfl]; exact v3i.2 h.1
   ·rw [if_neg e',if_neg e']
  ·rw [if_neg e]
   simp only [z22,ih]
   by_cases e':k'=x
   ·subst e'; rw [if_pos rfl,if_neg (fun h=>e h.symm),if_pos rfl]
   ·rw [if_neg e',if_neg e']
end
structure v5z (κ ν:Type) where
 ke:κ→D
 ve:ν→D
 ks:List SK
 ka:Bool
 va:Bool
 ck:List CK
structure v5z.Ok {κ ν:Type} [DecidableEq κ] (E:v5z κ ν):Prop where
 agg:∀ k,z1h (E.ke k)=E.ka
 kinds:∀ k,z04 E.ks (z0q (E.ke k))=true
 eq:∀ a b,z9f E.ks (z0q (E.ke a)) (z0q (E.ke b))=some (decide (a=b))
 vagg:∀ v,z1h (E.ve v)=E.va
 vok:∀ v,z3k E.ck (z0q (E.ve v))=true
def v5z.enc {κ ν:Type} (E:v5z κ ν) (m:List (κ×ν)):List (D×D):=m.map fun e=>(E.ke e.1,E.ve e.2)
section
variable {κ ν:Type} [DecidableEq κ] {E:v5z κ ν} (h:E.Ok)
include h
theorem v34 (k:κ):∀ (m:List (κ×ν)) (i:Nat),x0l E.ks E.ka (E.ke k) (E.enc m) i=some ((v5y m k i).map fun x=>(x.1,E.ve x.2))
 |[],i=>rfl
 |(k',v)::r,i=>by
  have ih:=v34 k r (i+1)
  unfold v5z.enc at ih⊢
  simp only [eDc,x0l,h.agg,beq_self_eq_true,eDq,cond_true,h.eq,v5y]
  by_cases e:k=k'
  ·simp [e]
  ·simp [e,ih]
theorem v53 (m:List (κ×ν)) (k:κ):std.mOk (E.enc m) E.ks E.ka (E.ke k) E.va E.ck=true:=by
 show ((z1h (E.ke k)==E.ka)&&z04 E.ks (z0q (E.ke k))&&match x0l E.ks E.ka (E.ke k) (E.enc m) 0 with|some none=>true|some (some (_,v))=>(z1h v==E.va)&&z3k E.ck (z0q v)|none=>false)=true
 rw [v34 h,h.agg,h.kinds]
 cases v5y m k 0 with
 |none=>simp
 |some x=>simp [h.vagg,h.vok]
theorem v3s (m:List (κ×ν)) (k:κ):w4n (E.enc m) E.ks E.ka (E.ke k)=(v5y m k 0).map fun x=>(x.1,E.ve x.2):=by
 unfold w4n; rw [v34 h]; rfl
theorem v45 (m:List (κ×ν)) (k:κ):std.mhas (E.enc m) E.ks E.ka (E.ke k)=(z22 m k).isSome:=by
 show (w4n _ _ _ _).isSome=_
 rw [v3s h, ←v3j k m 0]; simp
theorem v30 (m:List (κ×ν)) (k:κ) (j:Nat) {v:ν} (hv:z22 m k=some v):x2i (E.enc m) E.ks E.ka (E.ke k) j=((z0q (E.ve v))[j]?).getD .nilp:=by
 unfold x2i
 rw [v3s h]
 rw [←v3j k m 0] at hv
 cases ha:v5y m k 0 with
 |none=>rw [ha] at hv; cases hv
 |some x=>rw [ha] at hv; cases hv; rfl
theorem v31 (m:List (κ×ν)) (k:κ) (j:Nat) {v:ν} (hv:z22 m k=some v):std.mI (E.enc m) E.ks E.ka (E.ke k) j=dI (((z0q (E.ve v))[j]?).getD .nilp):=by
 show dI (x2i _ _ _ _ _)=_
 rw [v30 h m k j hv]
theorem u3j (m:List (κ×ν)) (k:κ) (j:Nat) {v:ν} (hv:z22 m k=some v):std.mB (E.enc m) E.ks E.ka (E.ke k) j=dB (((z0q (E.ve v))[j]?).getD .nilp):=by
 show dB (x2i _ _ _ _ _)=_
 rw [v30 h m k j hv]
theorem v6m (m:List (κ×ν)) (k:κ) {v:ν} (hv:z22 m k=some v) (w:ν):std.mset (E.enc m) (std.nat (std.ofNat (std.mpos (E.enc m) E.ks E.ka (E.ke k)))) (E.ke k) (E.ve w)=E.enc (v4b m k w):=by
 show (E.enc m).set (Int.toNat ((((w4n (E.enc m) E.ks E.ka (E.ke k)).map (·.1)).getD 0:Nat):Int)) (E.ke k,E.ve w)=_
 rw [v3s h]
 have hv':=hv
 rw [←v3j k m 0] at hv
 cases ha:v5y m k 0 with
 |none=>rw [ha] at hv; cases hv
 |some x=>
  obtain ⟨j,u⟩:=x
  simp only [eBh,eBk,eCh,v4b,hv',v5z.enc]
  rw [←v6z ha w,Nat.sub_zero,List.map_set]
theorem v47 (m:List (κ×ν)) (k:κ) (hv:z22 m k=none) (w:ν):std.madd (E.enc m) (E.ke k) (E.ve w)=E.enc (v4b m k w):=by
 show E.enc m++[(E.ke k,E.ve w)]=_
 simp [v4b,hv,v5z.enc]
theorem v83 (m:List (κ×ν)) (k:κ) {v:ν} (hv:z22 m k=some v):std.mdel (E.enc m) (std.nat (std.ofNat (std.mpos (E.enc m) E.ks E.ka (E.ke k))))=E.enc (v8r m k):=by
 show (E.enc m).eraseIdx (Int.toNat ((((w4n (E.enc m) E.ks E.ka (E.ke k)).map (·.1)).getD 0:Nat):Int))=_
 rw [v3s h]
 rw [←v3j k m 0] at hv
 cases ha:v5y m k 0 with
 |none=>rw [ha] at hv; cases hv
 |some x=>
  obtain ⟨j,u⟩:=x
  simp only [eBh,eBk,eCh,v5z.enc]
  rw [←v60 ha,Nat.sub_zero]
  apply eBd
  intro i
  simp only [List.getElem?_eraseIdx,eAg]
  split<;>rfl
end
end Go.Am
end
section
namespace Go.Am
open D12
variable {fl fl':List Int→Bool}
theorem u5g (s:Sg) (i:Nat) (h:i<128):G74 std ((s.a:Int),((s.b:Int),((i:Int),())))=some (s.has i,()):=by
 have q:=u3n h
 have r:=u3m h
 unfold G74 Sg.has
 by_cases h6:i<64
 ·rw [if_pos h6] at q r⊢
  have hb:=u3b s.ha h6
  rw [v51] at hb
  have r0:(0:Int)≤((i:Nat):Int):=by omega
  simp [z2d,z2e,z4b,Int.reduceLT,Int.reduceEq,Int.reduceLE,q,r,hb,r0]
 ·rw [if_neg h6] at q r⊢
  have hb:=u3b s.hb (show i - 64<64 by omega)
  rw [v51] at hb
  have r0:(0:Int)≤((i - 64:Nat):Int):=by omega
  simp [z2d,z2e,z4b,Int.reduceLT,Int.reduceEq,Int.reduceLE,q,r,hb,r0]
theorem u0l (s:Sg) (i:Nat) (h:i<128):G72 std ((s.a:Int),((s.b:Int),((i:Int),())))=some (((s.wth i).a:Int),(((s.wth i).b:Int),())):=by
 have q:=u3n h
 have r:=u3m h
 unfold G72 Sg.wth
 by_cases h6:i<64
 ·rw [if_pos h6] at q r
  rw [dif_pos h6]
  have hb:=u9k s.ha (eDv (by omega) h6:2 ^ i<2 ^ 64)
  have hs:=u3a h6
  have r0:(0:Int)≤((i:Nat):Int):=by omega
  have t0:(0:Int)<((2:Nat):Int):=by omega
  have t1:(1:Int)<((2:Nat):Int):=by omega
  simp only [z2d,z2e,z4b,Int.reduceLT,Int.reduceEq,Int.reduceLE,q,r,hs,hb,r0,t0,t1]
 ·rw [if_neg h6] at q r
  rw [dif_neg h6,dif_pos h]
  have h7:i - 64<64:=by omega
  have hb:=u9k s.hb (eDv (by omega) h7:2 ^ (i - 64)<2 ^ 64)
  have hs:=u3a h7
  have r0:(0:Int)≤((i - 64:Nat):Int):=by omega
  have t0:(0:Int)<((2:Nat):Int):=by omega
  have t1:(1:Int)<((2:Nat):Int):=by omega
  simp only [z2d,z2e,z4b,Int.reduceLT,Int.reduceEq,Int.reduceLE,q,r,hs,hb,r0,t0,t1]
theorem u4w (a b c d e f:Int):v6t std (a,(b,(c,(d,(e,(f,((0:Int),())))))))=some (.inl (std.ar .and .u64 a c,(b,(c,(d,(e,(f,((1:Int),())))))))):=rfl
theorem u4v (a b c d e f:Int):v6t std (a,(b,(c,(d,(e,(f,((1:Int),())))))))=some (.inl (a,(std.ar .and .u64 b d,(c,(d,(e,(f,((2:Int),())))))))):=rfl
theorem u4u (a b c d e f:Int):v6t std (a,(b,(c,(d,(e,(f,((2:Int),())))))))=some (.inr (a,(b,(e,(f,()))))):=rfl
theorem u2m (s t:Sg):u5t std ((s.a:Int),((s.b:Int),((t.a:Int),((t.b:Int),()))))=some (((s.and t).a:Int),(((s.and t).b:Int),())):=by
 unfold u5t
 rw [z7m,u4w]
 simp only []
 rw [z7m,u4v]
 simp only []
 rw [z7m,u4u,u0t s.ha t.ha,u0t s.hb t.hb]
 rfl
theorem u2o (l:List Int) (h1:1≤l.length) (h2:l.length≤1000000):u5u std (z1a l,())=some (z1a l,()):=by
 unfold u5u
 have e0:(z1a l).length=l.length:=z00 l
 have h3:¬ l.length≤0:=by omega
 have h4:(z1a l).take l.length=z1a l:=by rw [←e0,eDf]
 simp only [z2d,z2e,z4b,Int.reduceLT,Int.reduceEq,Int.reduceLE,e0,h1,h2,h3,List.take_nil,List.drop_nil,eDp,eDj,eAp,eAk,eAt,h4]
theorem u5f (c:Cd) (h1:1≤c.t.length) (h2:c.t.length≤1000000):G75 std (c.n,(c.k,(z1a c.t,(c.a,()))))=some (c.n,(c.k,(z1a c.t,(c.a,())))):=by
 unfold G75
 have:=u2o c.t h1 h2
 simp only [z2d,z2e,this]
def eS (s:Sg):List D:=[.int .u64 (s.a:Int), .int .u64 (s.b:Int)]
def z41 (l:List Sg):List (List D):=l.map eS
theorem v9f (l:List Sg):(z41 l).length=l.length:=by simp [z41]
theorem v21 (s:Sg):z3k [CK.int IntKind.u64,CK.int IntKind.u64] (eS s)=true:=rfl
theorem v38 (s:Sg):dI ((eS s)[0]?.getD D.nilp)=(s.a:Int):=rfl
theorem v37 (s:Sg):dI ((eS s)[1]?.getD D.nilp)=(s.b:Int):=rfl
theorem v9e (l:List Sg) (i:Nat) (s:Sg):(z41 l).set i (eS s)=z41 (l.set i s):=by simp [z41,List.map_set]
def EX:v5z Int Nat:=⟨fun k=> .int .i64 k,fun v=> .int .i64 (v:Int),[.i],false,false,[.int .i64]⟩
theorem v8v:EX.Ok where
 agg _:=rfl
 kinds _:=rfl
 eq:=fun a b=>by
  show (bif IntKind.i64==IntKind.i64 then (some (z3o .eql a b&&true)) else none)=_
  rw [eCc]; rfl
 vagg _:=rfl
 vok _:=rfl
def z75 (m:List (Int×Nat)):List (D×D):=EX.enc m
section
variable (m:List (Int×Nat)) (x:Int)
theorem v91:std.mOk (z75 m) [SK.i] false (.int .i64 x) false [.int .i64]=true:=v53 v8v m x
theorem v5d:std.mhas (z75 m) [SK.i] false (.int .i64 x)=(z22 m x).isSome:=v45 v8v m x
variable {m x}
theorem u2g {v:Nat} (h:z22 m x=some v):std.mI (z75 m) [SK.i] false (.int .i64 x) 0=(v:Int):=v31 v8v m x 0 h
theorem u4y {v:Nat} (h:z22 m x=some v) (w:Nat):std.mset (z75 m) (std.mpos (z75 m) [SK.i] false (.int .i64 x)) (.int .i64 x) (.int .i64 (w:Int))=z75 (v4b m x w):=v6m v8v m x h w
theorem u2h (h:z22 m x=none) (w:Nat):std.madd (z75 m) (.int .i64 x) (.int .i64 (w:Int))=z75 (v4b m x w):=v47 v8v m x h w
end
end Go.Am
end
section
namespace Go.Am
theorem z46 {S R τ α:Type} {b:S→Option (S⊕R)} (l:List α) (e:τ→Nat→S) (f:τ→α→τ) (I:τ→Nat→Prop) (r:τ→R)
  (step:∀ t i x,l[i]?=some x→I t i→b (e t i)=some (.inl (e (f t x) (i+1)))∧I (f t x) (i+1))
  (stop:∀ t,I t l.length→b (e t l.length)=some (.inr (r t))) (t:τ) (h:I t 0):z5r b (e t 0)=some (r (l.foldl f t))∧I (l.foldl f t) l.length:=by
 have key:∀ (q:List α) (i:Nat) (t:τ),l.drop i=q→i≤l.length→I t i→z5r b (e t i)=some (r (q.foldl f t))∧I (q.foldl f t) l.length:=by
  intro q
  induction q with
  |nil=>
   intro i t hq hi hI
   have:i=l.length:=by have:=List.drop_eq_nil_iff.1 hq; omega
   subst this
   rw [z7m,stop t hI]
   exact ⟨rfl,hI⟩
  |cons x q ih=>
   intro i t hq hi hI
   have hx:l[i]?=some x:=by rw [←List.head?_drop,hq]; rfl
   have hlt:i<l.length:=(eAd.1 hx).1
   obtain ⟨h1,h2⟩:=step t i x hx hI
   have hq':l.drop (i+1)=q:=by rw [←eCw,hq]; rfl
   rw [z7m,h1]
   exact ih (i+1) (f t x) hq' hlt h2
 exact key l 0 t rfl (eAv _) h
namespace D12
def v6c (g:List Cd) (c:Cd):List Cd:=if (g.any fun d=>decide (d.n=c.n))=true then g else g++[c]
def z36 (dks:List (List Cd)):List Cd:=dks.foldl (fun g l=>l.foldl v6c g) []
def ixM (g:List Cd):List (Int×Nat):=(g.map (·.n)).zipIdx
def gi (g:List Cd) (c:Cd):Nat:=(g.map (·.n)).idxOf c.n
theorem v6v (x:Int):∀ (l:List Int) (k:Nat),z22 (l.zipIdx k) x=if x∈l then some (k+l.idxOf x) else none
 |[],k=>by simp [z22]
 |y::l,k=>by
  rw [List.zipIdx_cons]
  simp only [z22,v6v x l (k+1),eAz,List.idxOf_cons]
  by_cases h:x=y
  ·subst h; simp
  ·have h':(y==x)=false:=by simpa using fun e=>h e.symm
   simp only [h,if_false,false_or,h',cond_false]
   split
   ·simp; omega
   ·rfl
theorem v96 (g:List Cd) (x:Int):z22 (ixM g) x=if x∈g.map (·.n) then some ((g.map (·.n)).idxOf x) else none:=by
 unfold ixM; rw [v6v]; simp
theorem u1o {g:List Cd} {c:Cd} (h:c∈g):z22 (ixM g) c.n=some (gi g c):=by
 rw [v96,if_pos (List.mem_map_of_mem h)]; rfl
theorem u3k (g:List Cd) (x:Int):(z22 (ixM g) x).isSome=g.any fun d=>decide (d.n=x):=by
 rw [v96,eCu]
 by_cases h:x∈g.map (·.n)
 ·rw [if_pos h]
  obtain ⟨d,h1,h2⟩:=eBb.1 h
  simp only [Option.isSome_some,eCz,true_iff,decide_eq_true_eq]
  exact ⟨d,h1,h2⟩
 ·rw [if_neg h]
  simp only [Option.isSome_none,eCz,decide_eq_true_eq,eAi,false_iff]
  rintro ⟨d,h1,h2⟩
  exact h (eBb.2 ⟨d,h1,h2⟩)
theorem u3l {g:List Cd} {c:Cd} (h:z22 (ixM g) c.n=none):v4b (ixM g) c.n g.length=ixM (g++[c]):=by
 unfold v4b; rw [h]
 unfold ixM
 rw [eDu,List.zipIdx_append]
 simp
theorem v88 {g:List Cd} {c:Cd} (h:c∈g):gi g c<g.length:=by
 have:=eDd (List.mem_map_of_mem (f:=fun c:Cd=>c.n) h)
 rwa [eBt] at this
theorem v6o {g:List Cd} {c:Cd} (hi:Inj g) (h:c∈g):g[gi g c]?=some c:=by
 have hl:=v88 h
 rw [eAa hl]
 congr 1
 refine hi _ (eCp hl) _ h ?_
 have e:=eDe (eDd (List.mem_map_of_mem (f:=fun c:Cd=>c.n) h))
 rw [List.getElem_map] at e
 exact e
theorem v3r {g:List Cd} {c:Cd} {i:Nat} (hn:(g.map (·.n)).Nodup) (h:g[i]?=some c):gi g c=i:=by
 obtain ⟨h1,h2⟩:=eAd.1 h
 have hi:=z24 hn
 have hm:c∈g:=eAu h
 have:=v6o hi hm
 obtain ⟨h3,h4⟩:=eAd.1 this
 have:=(List.getElem_inj (z37 hn) (h₀:=h3) (h₁:=h1)).1 (h4.trans h2.symm)
 exact this
def Rp (ss:List Sg) (g:List Cd) (B:Cd→Cd→Bool):Prop:=
 ss.length=g.length∧∀ i c,g[i]?=some c→∀ k,(ss.getD i Sg.none).has k=match g[k]? with|some d=>B d c|none=>false
theorem u0w (g:List Cd):Rp (List.replicate g.length Sg.none) g fun _ _=>false:=by
 refine ⟨by simp,fun i c hc k=>?_⟩
 have:(List.replicate g.length Sg.none).getD i Sg.none=Sg.none:=by
  rw [eCi,eCf]; split<;>rfl
 rw [this,Sg.has_none]
 split<;>rfl
theorem Rp.congr {ss:List Sg} {g:List Cd} {B C:Cd→Cd→Bool} (h:Rp ss g B) (hc:∀ d∈g,∀ c∈g,B d c=C d c):Rp ss g C:=by
 refine ⟨h.1,fun i c hi k=>?_⟩
 rw [h.2 i c hi k]
 cases hk:g[k]? with
 |none=>rfl
 |some d=>exact hc d (eAu hk) c (eAu hi)
def z23 (i:Nat) (s:List (Int×Nat)×List Sg) (x:Int):List (Int×Nat)×List Sg:=
 (v4b s.1 x i,match z22 s.1 x with|some k=>s.2.set i ((s.2.getD i Sg.none).wth k)|none=>s.2)
theorem v75 {α:Type} {l:List α} {i j:Nat} {a d:α} (h:j≠i):(l.set i a).getD j d=l.getD j d:=by
 rw [eCi,eCi,List.getElem?_set_ne (fun e=>h e.symm)]
theorem v76 {α:Type} {l:List α} {i:Nat} {a d:α} (h:i<l.length):(l.set i a).getD i d=a:=by
 rw [eCi,List.getElem?_set_self h]; rfl
theorem v7m (i:Nat):∀ (t:List Int) (L:List (Int×Nat)) (ss:List Sg),t.Nodup→i<ss.length→(∀ x k,z22 L x=some k→k<128)→i<128→
  (∀ x,z22 (t.foldl (z23 i) (L,ss)).1 x=if x∈t then some i else z22 L x)∧(t.foldl (z23 i) (L,ss)).2.length=ss.length∧
  (∀ j,j≠i→(t.foldl (z23 i) (L,ss)).2.getD j Sg.none=ss.getD j Sg.none)∧
  ∀ k,((t.foldl (z23 i) (L,ss)).2.getD i Sg.none).has k=((ss.getD i Sg.none).has k||t.any fun x=>decide (z22 L x=some k))
 |[],L,ss,_,_,_,_=>⟨fun x=>by simp,rfl,fun _ _=>rfl,fun k=>by simp⟩
 |x::t,L,ss,hn,hi,hL,h128=>by
  simp only [eDs]
  have hn':=eDt.1 hn
  have hs:(z23 i (L,ss) x).2.length=ss.length:=by
   unfold z23; simp only; cases z22 L x<;>simp
  have ih:=v7m i t (z23 i (L,ss) x).1 (z23 i (L,ss) x).2 hn'.2 (by rw [hs]; exact hi) (by
   intro y k hy
   unfold z23 at hy
   simp only [v28] at hy
   split at hy
   ·cases hy; exact h128
   ·exact hL y k hy) h128
  obtain ⟨h1,h2,h3,h4⟩:=ih
  refine ⟨fun y=>?_,h2.trans hs,fun j hj=>?_,fun k=>?_⟩
  ·rw [h1 y]
   simp only [z23,v28,eAz]
   by_cases hy:y∈t
   ·simp [hy]
   ·by_cases hx:y=x
    ·simp [hx]
    ·simp [hy,hx]
  ·rw [h3 j hj]
   simp only [z23]
   cases z22 L x with
   |none=>rfl
   |some k=>exact v75 hj
  ·rw [h4 k]
   have e1:((z23 i (L,ss) x).2.getD i Sg.none).has k=((ss.getD i Sg.none).has k||decide (z22 L x=some k)):=by
    simp only [z23]
    cases hv:z22 L x with
    |none=>simp
    |some m=>
     simp only
     rw [v76 hi,Sg.has_wth _ (hL x m hv)]
     congr 1
     exact decide_eq_decide.2 ⟨fun h=>by rw [h],fun h=>by cases h; rfl⟩
   have e2:(t.any fun y=>decide (z22 (z23 i (L,ss) x).1 y=some k))=t.any fun y=>decide (z22 L y=some k):=by
    have:∀ y∈t,decide (z22 (z23 i (L,ss) x).1 y=some k)=decide (z22 L y=some k):=by
     intro y hy
     simp only [z23,v28]
     have:y≠x:=fun e=>hn'.1 (e▸hy)
     simp [this]
    rw [eCu,eCz,eCz]
    constructor
    ·rintro ⟨y,hy,h⟩; exact ⟨y,hy,by rw [←this y hy]; exact h⟩
    ·rintro ⟨y,hy,h⟩; exact ⟨y,hy,by rw [this y hy]; exact h⟩
   rw [e1,e2,List.any_cons,Bool.or_assoc]
def v4w (g:List Cd) (s:List (Int×Nat)×List Sg) (c:Cd):List (Int×Nat)×List Sg:=c.t.foldl (z23 (gi g c)) s
structure v94 (g:List Cd) (B0:Cd→Cd→Bool) (p:List Cd) (s:List (Int×Nat)×List Sg):Prop where
 last:∀ x,z22 s.1 x=(on x p).getLast?.map (gi g)
 rel:Rp s.2 g fun d c=>B0 d c||ltc p d c
theorem v6i {p:List Cd} {c e:Cd} (h:e∈p):pre (p++[c]) e=pre p e:=by
 unfold pre
 have h1:=eDd h
 rw [List.idxOf_append,if_pos h,List.take_append_of_le_length (by omega)]
theorem u1x {g:List Cd} {B0:Cd→Cd→Bool} (hg:(g.map (·.n)).Nodup) (hl:g.length≤128) {p:List Cd} {c:Cd} (hp:∀ d∈p,d∈g) (hc:c∈g) (hcp:c∉p) (ht:c.t.Nodup)
  {s:List (Int×Nat)×List Sg} (h:v94 g B0 p s):v94 g B0 (p++[c]) (v4w g s c):=by
 have hi:=z24 hg
 have hgl:=v88 hc
 obtain ⟨h1,h2,h3,h4⟩:=v7m (gi g c) c.t s.1 s.2 ht (by rw [h.rel.1]; exact hgl) (by
  intro x k hx
  rw [h.last x] at hx
  cases hq:(on x p).getLast? with
  |none=>rw [hq] at hx; cases hx
  |some d=>
   rw [hq] at hx
   cases hx
   have:=v88 (hp d (v4p (eDm hq)))
   omega) (by omega)
 refine ⟨fun x=>?_,?_,?_⟩
 ·show z22 (c.t.foldl (z23 (gi g c)) s).1 x=_
  rw [h1 x,v3d,h.last x]
  by_cases hx:x∈c.t
  ·rw [if_pos hx]
   have:on x [c]=[c]:=by rw [v44 hx]; rfl
   rw [this]; simp
  ·rw [if_neg hx]
   have:on x [c]=[]:=by simp [on,hx]
   rw [this]; simp
 ·show (c.t.foldl (z23 (gi g c)) s).2.length=_
  rw [h2,h.rel.1]
 ·intro i e he k
  show ((c.t.foldl (z23 (gi g c)) s).2.getD i Sg.none).has k=_
  have hie:=v3r hg he
  have hem:e∈g:=eAu he
  by_cases hec:e=c
  ·subst hec
   have h4':=h4 k
   rw [hie] at h4'⊢
   refine h4'.trans ?_
   rw [h.rel.2 i e he k]
   cases hk:g[k]? with
   |none=>
    simp only [Bool.false_or]
    rw [List.any_eq_false]
    intro x hx
    simp only [decide_eq_true_eq]
    intro hv
    have hv:z22 s.1 x=some k:=hv
    rw [h.last x] at hv
    cases hq:(on x p).getLast? with
    |none=>rw [hq] at hv; cases hv
    |some d=>
     rw [hq] at hv
     cases hv
     rw [v6o hi (hp d (v4p (eDm hq)))] at hk
     cases hk
   |some d=>
    simp only
    rw [Bool.or_assoc]
    congr 1
    have hl0:ltc p d e=false:=by
     cases hq:ltc p d e with
     |false=>rfl
     |true=>exact absurd (v3a.1 hq).1 hcp
    rw [hl0,Bool.false_or,eCu,eCz,v3a,v5j (p:=p) (r:=[]) rfl hcp]
    constructor
    ·rintro ⟨x,hx,hv⟩
     have hv:z22 s.1 x=some k:=by simpa using hv
     rw [h.last x] at hv
     refine ⟨by simp,x,hx,?_⟩
     cases hq:(on x p).getLast? with
     |none=>rw [hq] at hv; cases hv
     |some d'=>
      rw [hq] at hv
      cases hv
      rw [v6o hi (hp d' (v4p (eDm hq)))] at hk
      exact hk
    ·rintro ⟨_,x,hx,hv⟩
     refine ⟨x,hx,?_⟩
     have:z22 s.1 x=some k:=by
      rw [h.last x,hv]
      exact congrArg some (v3r hg hk)
     simpa using this
  ·have hne:i≠gi g c:=by
    rintro rfl
    rw [v6o hi hc] at he
    exact hec (Option.some.inj he).symm
   have h3':=congrArg (fun z=>z.has k) (h3 i hne)
   refine h3'.trans ?_
   simp only []
   rw [h.rel.2 i e he k]
   cases hk:g[k]? with
   |none=>rfl
   |some d=>
    simp only
    congr 1
    rw [eCu,v3a,v3a]
    constructor
    ·rintro ⟨hm,x,hx,hv⟩
     exact ⟨eDl _ hm,x,hx,by rw [v6i hm]; exact hv⟩
    ·rintro ⟨hm,x,hx,hv⟩
     have hm':e∈p:=by
      rcases eBj.1 hm with h|h
      ·exact h
      ·exact absurd (eBe.1 h) hec
     exact ⟨hm',x,hx,by rw [v6i hm'] at hv; exact hv⟩
theorem v8d {g:List Cd} {B0:Cd→Cd→Bool} (hg:(g.map (·.n)).Nodup) (hl:g.length≤128):∀ (q p:List Cd) (s:List (Int×Nat)×List Sg),(∀ d∈p++q,d∈g)→(p++q).Nodup→(∀ c∈q,c.t.Nodup)→v94 g B0 p s→v94 g B0 (p++q) (q.foldl (v4w g) s)
 |[],p,s,_,_,_,h=>by simpa using h
 |c::q,p,s,hm,hn,ht,h=>by
  have hs:=u1x hg hl (fun d hd=>hm d (eDl _ hd)) (hm c (by simp)) (fun hc=>(eDg.1 hn).2.2 c hc c (eBq ..) rfl) (ht c (eBq ..)) h
  have e:p++c::q=(p++[c])++q:=by simp
  rw [e]
  exact v8d hg hl q (p++[c]) _ (by rw [←e]; exact hm) (by rw [←e]; exact hn) (fun d hd=>ht d (eCm _ hd)) hs
def v36 (g:List Cd) (ss:List Sg) (l:List Cd):List Sg:=(l.foldl (v4w g) ([],ss)).2
def u6h (g:List Cd) (dks:List (List Cd)):List Sg:=dks.foldl (v36 g) (List.replicate g.length Sg.none)
theorem v8b {g:List Cd} (hg:(g.map (·.n)).Nodup) (hl:g.length≤128):∀ (dks:List (List Cd)) (B0:Cd→Cd→Bool) (ss:List Sg),(∀ l∈dks,(∀ d∈l,d∈g)∧l.Nodup∧∀ c∈l,c.t.Nodup)→Rp ss g B0→
  Rp (dks.foldl (v36 g) ss) g fun d c=>B0 d c||dks.any fun l=>ltc l d c
 |[],B0,ss,_,h=>h.congr fun _ _ _ _=>by simp
 |l::dks,B0,ss,hd,h=>by
  obtain ⟨h1,h2,h3⟩:=hd l (eBq ..)
  have hf:=v8d (B0:=B0) hg hl l [] ([],ss) (by simpa using h1) (by simpa using h2) h3 ⟨fun x=>by simp [z22,on],h.congr fun d _ c _=>by
   have:ltc [] d c=false:=by
    cases hq:ltc [] d c with
    |false=>rfl
    |true=>exact absurd (v3a.1 hq).1 (by simp)
   rw [this,Bool.or_false]⟩
  have:=v8b hg hl dks _ _ (fun l hl=>hd l (eCm _ hl)) hf.rel
  refine (show Rp ((l::dks).foldl (v36 g) ss) g _ from this).congr fun d _ c _=>?_
  simp only [eDp,List.any_cons,Bool.or_assoc]
theorem u0v {g:List Cd} (hg:(g.map (·.n)).Nodup) (hl:g.length≤128) {dks:List (List Cd)} (hd:∀ l∈dks,(∀ d∈l,d∈g)∧l.Nodup∧∀ c∈l,c.t.Nodup):Rp (u6h g dks) g fun d c=>dks.any fun l=>ltc l d c:=
 (v8b hg hl dks _ _ hd (u0w g)).congr fun _ _ _ _=>by simp
end D12
end Go.Am
end
section
namespace Go.Am
open D12
variable {fl fl':List Int→Bool}
theorem v9k (C lc DK:List (List D)) (IX:List (D×D)) (off len i n:Nat) (nd kd nl kl:Int) (t:List Int) (L:List (Int×Nat)) (ss:List Sg) (hn:n≤128) (hi:i<n) (hs:ss.length=n) (hL:∀ x k,z22 L x=some k→k<128) (ht:t.length≤1000000):
  z5r (v7c std) (z75 L,(C,(IX,(z41 ss,(off,(len,((i:Int),(DK,(nd,(kd,(lc,(nl,(kl,(z1a t,((t.length:Int),((0:Int),()))))))))))))))))=
   some (z75 (t.foldl (z23 i) (L,ss)).1,(C,(IX,(z41 (t.foldl (z23 i) (L,ss)).2,(off,(len,(DK,(nd,(kd,(lc,(nl,(kl,())))))))))))):=by
 have key:=z46 (b:=v7c std) t (fun (s:List (Int×Nat)×List Sg) j=>(z75 s.1,(C,(IX,(z41 s.2,(off,(len,((i:Int),(DK,(nd,(kd,(lc,(nl,(kl,(z1a t,((t.length:Int),((j:Int),()))))))))))))))))) (z23 i)
  (fun s _=>s.2.length=n∧∀ x k,z22 s.1 x=some k→k<128) (fun s=>(z75 s.1,(C,(IX,(z41 s.2,(off,(len,(DK,(nd,(kd,(lc,(nl,(kl,())))))))))))))
  (fun s j x hx hI=>by
   obtain ⟨hs,hL⟩:=hI
   have hj:j<t.length:=(eAd.1 hx).1
   obtain ⟨hw,h0⟩:=stp j (by omega)
   have hlt:(j:Int)<t.length:=by omega
   have hlen:(z41 s.2).length=n:=by rw [v9f,hs]
   have hin:(i:Int)<(n:Int):=by omega
   have hi0:(0:Int)≤(i:Int):=by omega
   have hti:((i:Int)).toNat=i:=by omega
   have hget:s.2[i]?=some (s.2.getD i Sg.none):=by rw [eCi,eAa (by omega)]; rfl
   have hinv:(z23 i s x).2.length=n∧∀ y k,z22 (z23 i s x).1 y=some k→k<128:=by
    refine ⟨?_,fun y k hy=>?_⟩
    ·unfold z23; simp only; cases z22 s.1 x<;>simp [hs]
    ·simp only [z23,v28] at hy
     split at hy
     ·cases hy; omega
     ·exact hL y k hy
   refine ⟨?_,hinv⟩
   cases hv:z22 s.1 x with
   |none=>
    have hh:(z22 s.1 x).isSome=false:=by rw [hv]; rfl
    have ha:=u2h hv i
    simp only [v7c,z2d,z2e,z1a,y8q,w5s,z4b,Int.reduceLT,Int.reduceEq,Int.reduceLE,hx,hlt,h0,hw,v91,v5d,hh,ha,hti,eAg,eBh,z23,hv,Option.isSome_none,Option.isSome_some]
   |some k=>
    have hh:(z22 s.1 x).isSome=true:=by rw [hv]; rfl
    have ha:=u4y hv i
    have hg:=u2g hv
    have h72:=u0l (s.2.getD i Sg.none) k (hL x k hv)
    have hset:=v9e s.2 i ((s.2.getD i Sg.none).wth k)
    have hl2:(z41 (s.2.set i ((s.2.getD i Sg.none).wth k))).length=(z41 s.2).length:=by simp [z41]
    simp only [show ∀ z:Sg,eS z=[.int .u64 (z.a:Int), .int .u64 (z.b:Int)] from fun _=>rfl] at hset
    have hrow:(z41 s.2)[i]?=some (eS (s.2.getD i Sg.none)):=by unfold z41; rw [eAg,hget]; rfl
    rw [←hlen] at hin
    simp only [v7c,z2d,z2e,z1a,y8q,w5s,z4b,Int.reduceLT,Int.reduceEq,Int.reduceLE,hx,hlt,h0,hw,v91,v5d,hh,ha,hg,hti,hrow,v21,v38,v37,h72,hin,hi0,eAg,eBh,z23,hv,Option.isSome_none,Option.isSome_some,hset,hl2])
  (fun s _=>by
   have hno:¬ (t.length:Int)<t.length:=by omega
   simp only [v7c,z2d,z2e,hno,if_false,z4b,Int.reduceLT,Int.reduceEq,Int.reduceLE]) (L,ss) ⟨hs,hL⟩
 exact key.1
theorem v9l (C DK:List (List D)) (off len:Nat) (nd kd:Int) (g l:List Cd) (hg:(g.map (·.n)).Nodup) (hgl:g.length≤128) (hm:∀ c∈l,c∈g) (ss:List Sg) (hs:ss.length=g.length) (hll:l.length≤1000000) (hf:Few l):
  z5r (v8i std) ([],(C,(z75 (ixM g),(z41 ss,(off,(len,(DK,(nd,(kd,(z0p fl l,((l.length:Int),((0:Int),()))))))))))))=
   some (C,(z75 (ixM g),(z41 (v36 g ss l),(off,(len,(DK,(nd,(kd,())))))))):=by
 have key:=z46 (b:=v8i std) l (fun (s:List (Int×Nat)×List Sg) j=>(z75 s.1,(C,(z75 (ixM g),(z41 s.2,(off,(len,(DK,(nd,(kd,(z0p fl l,((l.length:Int),((j:Int),()))))))))))))) (v4w g)
  (fun s _=>s.2.length=g.length∧∀ x k,z22 s.1 x=some k→k<128) (fun s=>(C,(z75 (ixM g),(z41 s.2,(off,(len,(DK,(nd,(kd,())))))))))
  (fun s j c hx hI=>by
   obtain ⟨hs,hL⟩:=hI
   have hj:j<l.length:=(eAd.1 hx).1
   have hc:=eAu hx
   obtain ⟨hw,h0⟩:=stp j (by omega)
   have hlt:(j:Int)<l.length:=by omega
   have hgi:=v88 (hm c hc)
   have hv:=u1o (hm c hc)
   have hh:(z22 (ixM g) c.n).isSome=true:=by rw [hv]; rfl
   have hge:=u2g hv
   have h5:=v9k C (z0p fl l) DK (z75 (ixM g)) off len (gi g c) g.length nd kd l.length j c.t s.1 s.2 hgl hgi hs hL (hf c hc)
   have hinv:∀ (t:List Int) (s:List (Int×Nat)×List Sg),s.2.length=g.length→(∀ x k,z22 s.1 x=some k→k<128)→(t.foldl (z23 (gi g c)) s).2.length=g.length∧∀ y k,z22 (t.foldl (z23 (gi g c)) s).1 y=some k→k<128:=by
    intro t
    induction t with
    |nil=>intro s h1 h2; exact ⟨h1,h2⟩
    |cons x t ih=>
     intro s h1 h2
     refine ih _ ?_ ?_
     ·unfold z23; simp only; cases z22 s.1 x<;>simp [h1]
     ·intro y k hy
      simp only [z23,v28] at hy
      split at hy
      ·cases hy; omega
      ·exact h2 y k hy
   refine ⟨?_,hinv c.t s hs hL⟩
   simp only [z0p,z1a] at h5
   have hrow:=v43 (fl:=fl) hx
   have hle:(l.map (eC fl)).length=l.length:=by simp
   have hti:(c.t.map eI).length=c.t.length:=by simp
   simp only [v8i,z2d,z2e,z0p,z1a,z5s,y4y,z0p,z1a,z4b,Int.reduceLT,Int.reduceEq,Int.reduceLE,hlt,h0,hw,hrow,hx,v91,v5d,hh,hge,h5,hti,hle,y0o,v4w])
  (fun s _=>by
   have hno:¬ (l.length:Int)<l.length:=by omega
   simp only [v8i,z2d,z2e,hno,if_false,z4b,Int.reduceLT,Int.reduceEq,Int.reduceLE]) ([],ss) ⟨hs,fun x k h=>by cases h⟩
 exact key.1
def eDk (fl:List Int→Bool) (l:List Cd):List D:=[.list false 4 (z0p fl l)]
def v25 (fl:List Int→Bool) (d:List (List Cd)):List (List D):=d.map (eDk fl)
theorem v5p (l:List Cd):z3k [CK.list 4] (eDk fl l)=true:=rfl
theorem v98 (l:List Cd):dL ((eDk fl l)[0]?.getD D.nilp)=z0p fl l:=rfl
theorem v9m (C:List (List D)) (off len:Nat) (g:List Cd) (hg:(g.map (·.n)).Nodup) (hgl:g.length≤128) (dks:List (List Cd)) (hm:∀ l∈dks,∀ c∈l,c∈g) (ss:List Sg) (hs:ss.length=g.length) (hdl:dks.length≤1000000) (hll:∀ l∈dks,l.length≤1000000) (hf:∀ l∈dks,Few l):
  z5r (v8j std) (C,(z75 (ixM g),(z41 ss,(off,(len,(v25 fl dks,((dks.length:Int),((0:Int),()))))))))=some (C,(z75 (ixM g),(z41 (dks.foldl (v36 g) ss),(off,(len,()))))):=by
 have key:=z46 (b:=v8j std) dks (fun (s:List Sg) j=>(C,(z75 (ixM g),(z41 s,(off,(len,(v25 fl dks,((dks.length:Int),((j:Int),()))))))))) (v36 g)
  (fun s _=>s.length=g.length) (fun s=>(C,(z75 (ixM g),(z41 s,(off,(len,()))))))
  (fun s j l hx hI=>by
   have hj:j<dks.length:=(eAd.1 hx).1
   have hl:=eAu hx
   obtain ⟨hw,h0⟩:=stp j (by omega)
   have hlt:(j:Int)<dks.length:=by omega
   have h4:=v9l (fl:=fl) C (v25 fl dks) off len dks.length j g l hg hgl (hm l hl) s hI (hll l hl) (hf l hl)
   have hinv:(v36 g s l).length=g.length:=by
    have:∀ (q:List Cd) (s:List (Int×Nat)×List Sg),(q.foldl (v4w g) s).2.length=s.2.length:=by
     intro q
     induction q with
     |nil=>intro s; rfl
     |cons c q ih=>
      intro s
      rw [eDs,ih]
      have:∀ (t:List Int) (s:List (Int×Nat)×List Sg),(t.foldl (z23 (gi g c)) s).2.length=s.2.length:=by
       intro t
       induction t with
       |nil=>intro s; rfl
       |cons x t ih=>
        intro s
        rw [eDs,ih]
        unfold z23; simp only; cases z22 s.1 x<;>simp
      exact this c.t s
    exact (this l ([],s)).trans hI
   refine ⟨?_,hinv⟩
   have hrow:(dks.map (eDk fl))[j]?=some (eDk fl l):=by rw [eAg,hx]; rfl
   have hle:(l.map (eC fl)).length=l.length:=by simp
   simp only [v25,z0p] at h4
   simp only [v8j,z2d,z2e,v5p,v98,v25,z0p,z4b,Int.reduceLT,Int.reduceEq,Int.reduceLE,hlt,h0,hw,hrow,hx,h4,hle])
  (fun s _=>by
   have hno:¬ (dks.length:Int)<dks.length:=by omega
   simp only [v8j,z2d,z2e,hno,if_false,z4b,Int.reduceLT,Int.reduceEq,Int.reduceLE]) ss hs
 exact key.1
theorem v6u (g:List Cd) (c:Cd):(v6c g c).length≤g.length+1:=by unfold v6c; split<;>simp
theorem v9n (DK DK':List (List D)) (nd kd:Int) (g l:List Cd) (hgl:g.length+l.length≤1000) (hf:Few l):
  z5r (v7d std) (z0p fl g,(z75 (ixM g),(0,(g.length,(DK,(DK',(nd,(kd,(z0p fl l,((l.length:Int),((0:Int),())))))))))))=
   some (z0p fl (l.foldl v6c g),(z75 (ixM (l.foldl v6c g)),(0,((l.foldl v6c g).length,(DK,(DK',(nd,(kd,())))))))):=by
 have key:=z46 (b:=v7d std) l (fun (g:List Cd) j=>(z0p fl g,(z75 (ixM g),(0,(g.length,(DK,(DK',(nd,(kd,(z0p fl l,((l.length:Int),((j:Int),())))))))))))) v6c
  (fun h j=>h.length≤g.length+j) (fun g=>(z0p fl g,(z75 (ixM g),(0,(g.length,(DK,(DK',(nd,(kd,())))))))))
  (fun h j c hx hI=>by
   have hj:j<l.length:=(eAd.1 hx).1
   have hc:=eAu hx
   obtain ⟨hw,h0⟩:=stp j (by omega)
   have hlt:(j:Int)<l.length:=by omega
   refine ⟨?_,by have:=v6u h c; omega⟩
   have hany:=u3k h c.n
   have hrow:=v43 (fl:=fl) hx
   have hle:(l.map (eC fl)).length=l.length:=by simp
   cases hq:h.any (fun d=>decide (d.n=c.n)) with
   |true=>
    rw [hq] at hany
    simp only [v7d,z2d,z2e,z0p,z1a,z5s,y4y,z0p,z4b,Int.reduceLT,Int.reduceEq,Int.reduceLE,hlt,h0,hw,hrow,hx,v91,v5d,hany,hle,v6c,hq]
   |false=>
    rw [hq] at hany
    have hno:z22 (ixM h) c.n=none:=by cases hz:z22 (ixM h) c.n with|none=>rfl|some _=>rw [hz] at hany; cases hany
    have ha:=u2h hno h.length
    rw [u3l hno] at ha
    have e1:(0:Int)≤(h.length:Int):=by omega
    have e2:¬ h.length+1≤h.length:=by omega
    have e3:h.length+1≤1000000:=by omega
    have e4:(h.map (eC fl)).length=h.length:=by simp
    have e5:(h.map (eC fl)).take h.length=h.map (eC fl):=by rw [←e4,eDf]
    simp only [v7d,z2d,z2e,z0p,z1a,z5s,y4y,z0p,z4b,Int.reduceLT,Int.reduceEq,Int.reduceLE,hlt,h0,hw,hrow,hx,v91,v5d,hany,hle,v6c,hq,ha,e1,e2,e3,e4,e5,Nat.sub_zero,eAt,Int.toNat_zero,eAk,Int.le_refl,eDj]
    have hF:std.rdF (l.map (eC fl)) j 2 1=fl c.t:=u6b ‹_›
    rw [hF]
    simp [eC,z1a])
  (fun s _=>by
   have hno:¬ (l.length:Int)<l.length:=by omega
   simp only [v7d,z2d,z2e,hno,if_false,z4b,Int.reduceLT,Int.reduceEq,Int.reduceLE]) g (eAk _)
 exact key.1
theorem v29:∀ (l g:List Cd),(l.foldl v6c g).length≤g.length+l.length
 |[],g=>by simp
 |c::l,g=>by
  have:=v29 l (v6c g c)
  have:=v6u g c
  simp only [eDs,eBi]; omega
theorem v9o (dks:List (List Cd)) (hdl:dks.length≤2) (hll:∀ l∈dks,l.length≤60) (hf:∀ l∈dks,Few l):
  z5r (v8k std) ([],([],(0,(0,(v25 fl dks,(v25 fl dks,((dks.length:Int),((0:Int),()))))))))=some (z0p fl (z36 dks),(z75 (ixM (z36 dks)),(0,((z36 dks).length,(v25 fl dks,())))))∧(z36 dks).length≤dks.length*60:=by
 have key:=z46 (b:=v8k std) dks (fun (g:List Cd) j=>(z75 (ixM g),(z0p fl g,(0,(g.length,(v25 fl dks,(v25 fl dks,((dks.length:Int),((j:Int),()))))))))) (fun g l=>l.foldl v6c g)
  (fun h j=>h.length≤j*60) (fun g=>(z0p fl g,(z75 (ixM g),(0,(g.length,(v25 fl dks,()))))))
  (fun h j l hx hI=>by
   have hj:j<dks.length:=(eAd.1 hx).1
   have hl:=eAu hx
   obtain ⟨hw,h0⟩:=stp j (by omega)
   have hlt:(j:Int)<dks.length:=by omega
   have h60:=hll l hl
   have h2:=v9n (fl:=fl) (v25 fl dks) (v25 fl dks) dks.length j h l (by omega) (hf l hl)
   refine ⟨?_,by have:=v29 l h; omega⟩
   have hrow:(dks.map (eDk fl))[j]?=some (eDk fl l):=by rw [eAg,hx]; rfl
   have hle:(l.map (eC fl)).length=l.length:=by simp
   simp only [v25,z0p] at h2
   simp only [v8k,z2d,z2e,v5p,v98,v25,z0p,z4b,Int.reduceLT,Int.reduceEq,Int.reduceLE,hlt,h0,hw,hrow,hx,h2,hle])
  (fun s _=>by
   have hno:¬ (dks.length:Int)<dks.length:=by omega
   simp only [v8k,z2d,z2e,hno,if_false,z4b,Int.reduceLT,Int.reduceEq,Int.reduceLE]) [] (by simp)
 exact key
structure u9t (g:List Cd) (dks:List (List Cd)):Prop where
 nums:(g.map (·.n)).Nodup
 mem:∀ l∈dks,∀ c∈l,c∈g
 wf:∀ l∈dks,l.length≤60∧l.Nodup∧∀ c∈l,c.t.Nodup∧c.t.length≤1000000
theorem u5i (dks:List (List Cd)) (hdl:dks.length≤2) (hk:u9t (z36 dks) dks):
  G66 std (v25 fl dks,())=some (z0p fl (z36 dks),(z75 (ixM (z36 dks)),(z41 (u6h (z36 dks) dks),(0,((z36 dks).length,()))))):=by
 obtain ⟨h1,hlen⟩:=v9o (fl:=fl) dks hdl (fun l hl=>(hk.wf l hl).1) (fun l hl c hc=>((hk.wf l hl).2.2 c hc).2)
 generalize z36 dks=g at*
 have hgl:g.length≤128:=by omega
 have h3:=v9m (fl:=fl) (z0p fl g) 0 g.length g hk.nums hgl dks hk.mem (List.replicate g.length Sg.none) (by simp) (by omega) (fun l hl=>by have:=(hk.wf l hl).1; omega) (fun l hl c hc=>((hk.wf l hl).2.2 c hc).2)
 have hrep:List.replicate g.length [D.int .u64 0,D.int .u64 0]=z41 (List.replicate g.length Sg.none):=by
  unfold z41; rw [List.map_replicate]; rfl
 unfold G66 u6h
 have hd:(v25 fl dks).length=dks.length:=by simp [v25]
 have e0:(0:Int)≤(g.length:Int):=by omega
 have e1:(g.length:Int)≤1000000:=by omega
 have e2:(z41 (List.replicate g.length Sg.none)).length=g.length:=by simp [z41]
 simp only [z2d,z2e,z4b,Int.reduceLT,Int.reduceEq,Int.reduceLE,hd,h1,h3,hrep,e0,e1,e2,Int.le_refl]
end Go.Am
end
section
namespace Go.Am
open D12
variable {fl fl':List Int→Bool}
def u2q (g rem:List Cd) (s:Sg):Prop:=∀ k c,g[k]?=some c→s.has k=!decide (c∈rem)
theorem v7q {g rem:List Cd} {ss:List Sg} {B:Cd→Cd→Bool} (hr:Rp ss g B) (hgl:g.length≤128) (hi:Inj g) (hsub:∀ x∈rem,x∈g) {s:Sg} (hd:u2q g rem s) {j:Nat} {d:Cd} (hj:g[j]?=some d):
  (((ss.getD j Sg.none).and s).a=(ss.getD j Sg.none).a∧((ss.getD j Sg.none).and s).b=(ss.getD j Sg.none).b)↔w7p B rem d=true:=by
 rw [Sg.and_sub,z33]
 constructor
 ·intro h e he
  obtain ⟨k,hk,hke⟩:=eDi.1 (hsub e he)
  have hk':g[k]?=some e:=by rw [eAa hk,hke]
  have hb:=hr.2 j d hj k
  rw [hk'] at hb
  cases hq:B e d with
  |false=>rfl
  |true=>
   have:=h k (by omega) (by rw [hb]; exact hq)
   rw [hd k e hk'] at this
   simp [he] at this
 ·intro h k hk hb
  rw [hr.2 j d hj k] at hb
  cases hk':g[k]? with
  |none=>rw [hk'] at hb; cases hb
  |some e=>
   rw [hk'] at hb
   rw [hd k e hk']
   have hb:B e d=true:=hb
   have:e∉rem:=fun he=>by rw [h e he] at hb; cases hb
   simp [this]
def v95 (B:Cd→Cd→Bool) (g rem:List Cd) (b:Int) (j:Nat):Prop:=
 (b= -1∧∀ i d,i<j→g[i]?=some d→d∈rem→w7p B rem d=true→False)∨
 ∃ (k:Nat) (c:Cd),b=(k:Int)∧k<j∧g[k]?=some c∧c∈rem∧w7p B rem c=true∧∀ i d,i<j→g[i]?=some d→d∈rem→w7p B rem d=true→c.n≤d.n
theorem v8e {B:Cd→Cd→Bool} {g rem:List Cd} {b:Int} (hi:Inj g) (hsub:∀ x∈rem,x∈g) (h:v95 B g rem b g.length) {c0:Cd} (hb:best B rem=some c0):∃ k:Nat,b=(k:Int)∧g[k]?=some c0:=by
 have hr:=hi.sub hsub
 have h0:=(v3o B hr).1 hb
 rcases h with ⟨rfl,h⟩|⟨k,c,rfl,hk,hc,hm,hf,hl⟩
 ·obtain ⟨i,hi',he⟩:=eDi.1 (hsub c0 h0.1)
  exact (h i c0 hi' (by rw [eAa hi',he]) h0.1 ((z33 B).2 h0.2.1)).elim
 ·refine ⟨k,rfl,?_⟩
  have:best B rem=some c:=(v3o B hr).2 ⟨hm,(z33 B).1 hf,fun d hd hfd=>by
   obtain ⟨i,hi',he⟩:=eDi.1 (hsub d hd)
   exact hl i d hi' (by rw [eAa hi',he]) hd ((z33 B).2 hfd)⟩
  rw [hb] at this
  cases this
  exact hc
theorem v4y {B:Cd→Cd→Bool} {g rem:List Cd} {b:Int} {j:Nat} (h:v95 B g rem b j) {d:Cd} (hj:g[j]?=some d) (hno:¬ (d∈rem∧w7p B rem d=true)):v95 B g rem b (j+1):=by
 have hx:∀ i e,i<j+1→g[i]?=some e→e∈rem→w7p B rem e=true→i<j:=by
  intro i e hi he h1 h2
  rcases eBw i j with h|h
  ·exact h
  ·have:i=j:=by omega
   subst this
   rw [hj] at he; cases he
   exact absurd ⟨h1,h2⟩ hno
 rcases h with ⟨rfl,h⟩|⟨k,c,rfl,hk,hc,hm,hf,hl⟩
 ·exact .inl ⟨rfl,fun i e hi he h1 h2=>h i e (hx i e hi he h1 h2) he h1 h2⟩
 ·exact .inr ⟨k,c,rfl,by omega,hc,hm,hf,fun i e hi he h1 h2=>hl i e (hx i e hi he h1 h2) he h1 h2⟩
theorem v9j (E:List (List D)) (IX:List (D×D)) (g rem:List Cd) (ss:List Sg) {B:Cd→Cd→Bool} (hr:Rp ss g B) (hgl:g.length≤128) (hi:Inj g) (hsub:∀ x∈rem,x∈g) {s:Sg} (hd:u2q g rem s) (d0 d1 n8 n9:Int) {c0:Cd} (hb:best B rem=some c0):
  ∃ k:Nat,z5r (v4j std) (z0p fl g,(IX,(z41 ss,(E,(0,(g.length,(d0,(d1,((-1:Int),((s.a:Int),((s.b:Int),(n8,(n9,((g.length:Int),((0:Int),())))))))))))))))=
   some (z0p fl g,(IX,(z41 ss,(E,(0,(g.length,(d0,(d1,((k:Int),((s.a:Int),((s.b:Int),(n8,(n9,())))))))))))))∧g[k]?=some c0:=by
 have key:=y6h (b:=v4j std) g.length (fun (b:Int) j=>(z0p fl g,(IX,(z41 ss,(E,(0,(g.length,(d0,(d1,(b,((s.a:Int),((s.b:Int),(n8,(n9,((g.length:Int),((j:Int),()))))))))))))))))
  (fun b j=>v95 B g rem b j) (fun r=>∃ k:Nat,r=(z0p fl g,(IX,(z41 ss,(E,(0,(g.length,(d0,(d1,((k:Int),((s.a:Int),((s.b:Int),(n8,(n9,())))))))))))))∧g[k]?=some c0)
  (fun b j hj hB=> .inl (by
   obtain ⟨d,hdj⟩:=z1v hj
   obtain ⟨hw,h0⟩:=stp j (by omega)
   have hlt:(j:Int)<g.length:=by omega
   have h74:=u5g s j (by omega)
   rw [hd j d hdj] at h74
   have hsg:ss[j]?=some (ss.getD j Sg.none):=by rw [eCi,eAa (by rw [hr.1]; exact hj)]; rfl
   have hrow:(ss.map eS)[j]?=some (eS (ss.getD j Sg.none)):=by rw [eAg,hsg]; rfl
   have hbl:(ss.map eS).length=g.length:=by rw [eBt,hr.1]
   have h132:=u2m (ss.getD j Sg.none) s
   have hrd:=v7q hr hgl hi hsub hd hdj
   by_cases hm:d∈rem
   ·by_cases hf:w7p B rem d=true
    ·obtain ⟨ea,eb⟩:=hrd.2 hf
     rw [ea,eb] at h132
     have hcrow:=v43 (fl:=fl) hdj
     rcases hB with ⟨rfl,hB⟩|⟨k,c,rfl,hk,hc,hcm,hcf,hcl⟩
     ·refine ⟨(j:Int),?_, .inr ⟨j,d,rfl,by omega,hdj,hm,hf,fun i e hi' he h1 h2=>?_⟩⟩
      ·simp only [v4j,z2d,z2e,z41,z0p,v21,v38,v37,z4b,Int.reduceLT,Int.reduceEq,Int.reduceLE,hlt,h0,hw,h74,hm,hrow,hbl,h132]
      ·rcases eBw i j with h|h
       ·exact (hB i e h he h1 h2).elim
       ·have:i=j:=by omega
        subst this
        rw [hdj] at he; cases he; exact Int.le_refl _
     ·have hckr:=v43 (fl:=fl) hc
      have hk0:¬ (k:Int)<0:=by omega
      have hk1:(0:Int)≤(k:Int):=by omega
      have hk2:(k:Int)<(g.length:Int):=by omega
      by_cases hlt2:d.n<c.n
      ·refine ⟨(j:Int),?_, .inr ⟨j,d,rfl,by omega,hdj,hm,hf,fun i e hi' he h1 h2=>?_⟩⟩
       ·simp only [v4j,z2d,z2e,z0p,z1a,z5s,y4y,z41,z0p,v21,v38,v37,z4b,Int.reduceLT,Int.reduceEq,Int.reduceLE,hlt,h0,hw,h74,hm,hrow,hbl,h132,hcrow,hckr,hk0,hk1,hk2,hlt2]
       ·rcases eBw i j with h|h
        ·have:=hcl i e h he h1 h2; omega
        ·have:i=j:=by omega
         subst this
         rw [hdj] at he; cases he; exact Int.le_refl _
      ·refine ⟨(k:Int),?_, .inr ⟨k,c,rfl,by omega,hc,hcm,hcf,fun i e hi' he h1 h2=>?_⟩⟩
       ·simp only [v4j,z2d,z2e,z0p,z1a,z5s,y4y,z41,z0p,v21,v38,v37,z4b,Int.reduceLT,Int.reduceEq,Int.reduceLE,hlt,h0,hw,h74,hm,hrow,hbl,h132,hcrow,hckr,hk0,hk1,hk2,hlt2]
       ·rcases eBw i j with h|h
        ·exact hcl i e h he h1 h2
        ·have:i=j:=by omega
         subst this
         rw [hdj] at he; cases he; omega
    ·refine ⟨b,?_,v4y hB hdj fun h=>hf h.2⟩
     have hne:¬ ((((ss.getD j Sg.none).and s).a:Int)=((ss.getD j Sg.none).a:Int)∧(((ss.getD j Sg.none).and s).b:Int)=((ss.getD j Sg.none).b:Int)):=fun h=>hf (hrd.1 ⟨by omega,by omega⟩)
     by_cases h1:(((ss.getD j Sg.none).and s).a:Int)=((ss.getD j Sg.none).a:Int)
     ·have h2:¬ (((ss.getD j Sg.none).and s).b:Int)=((ss.getD j Sg.none).b:Int):=fun h=>hne ⟨h1,h⟩
      simp only [v4j,z2d,z2e,z41,z0p,v21,v38,v37,z4b,Int.reduceLT,Int.reduceEq,Int.reduceLE,hlt,h0,hw,h74,hm,hrow,hbl,h132,h1,h2]
     ·simp only [v4j,z2d,z2e,z41,z0p,v21,v38,v37,z4b,Int.reduceLT,Int.reduceEq,Int.reduceLE,hlt,h0,hw,h74,hm,hrow,hbl,h132,h1]
   ·refine ⟨b,?_,v4y hB hdj fun h=>hm h.1⟩
    simp only [v4j,z2d,z2e,z41,z0p,v21,v38,v37,z4b,Int.reduceLT,Int.reduceEq,Int.reduceLE,hlt,h0,hw,h74,hm,hrow,hbl]))
  (fun b hB=>by
   obtain ⟨k,rfl,hk⟩:=v8e hi hsub hB hb
   have hno:¬ (g.length:Int)<g.length:=by omega
   exact ⟨_,by simp only [v4j,z2d,z2e,hno,if_false,z4b,Int.reduceLT,Int.reduceEq,Int.reduceLE],k,rfl,hk⟩) (-1) 0 (eAv _) (.inl ⟨rfl,fun i d hi'=>by omega⟩)
 obtain ⟨r,h1,k,rfl,hk⟩:=key
 exact ⟨k,h1,hk⟩
def u9v (B:Cd→Cd→Bool) (g:List Cd):Prop:=∀ rem:List Cd,(∀ x∈rem,x∈g)→rem≠[]→∃ c,best B rem=some c
theorem v9h {B:Cd→Cd→Bool} {g m:List Cd} (hl:Lin B m) (hm:∀ x∈g,x∈m):u9v B g:=by
 intro rem hs hne
 cases hq:best B rem with
 |some c=>exact ⟨c,rfl⟩
 |none=>
  exfalso
  have hq:=(v5s B).1 hq
  have h2:=v5r (hl.filter fun x=>decide (x∈rem)) (l:=m.filter fun x=>decide (x∈rem)) (by
   intro e
   obtain ⟨x,hx⟩:=List.exists_mem_of_ne_nil rem hne
   have:x∈m.filter fun x=>decide (x∈rem):=eDa.2 ⟨hm x (hs x hx),by simpa using hx⟩
   rw [e] at this; cases this)
  obtain ⟨c,hc⟩:=h2
  unfold best at hc
  obtain ⟨h3,_⟩:=z44 hc
  obtain ⟨h4,h5⟩:=eDa.1 h3
  have h6:c∈rem:=by simpa using (eDa.1 h4).2
  obtain ⟨d,hd,hdc⟩:=hq c h6
  have:=(z33 B).1 h5 d (eDa.2 ⟨hm d (hs d hd),by simpa using hd⟩)
  rw [hdc] at this; cases this
structure u9g (B:Cd→Cd→Bool) (g:List Cd) (t:List Cd×List Cd×Sg) (i:Nat):Prop where
 len:t.2.1.length+i=g.length
 olen:t.1.length=i
 sub:∀ x∈t.2.1,x∈g
 nd:t.2.1.Nodup
 done:u2q g t.2.1 t.2.2
 res:t.1++lst B t.2.1.length t.2.1=lst B g.length g
theorem v7z {B:Cd→Cd→Bool} {g:List Cd} (hn:(g.map (·.n)).Nodup) (hgl:g.length≤128) {t:List Cd×List Cd×Sg} {i:Nat} (h:u9g B g t i) {c:Cd} (hb:best B t.2.1=some c) {k:Nat} (hk:g[k]?=some c):
  u9g B g (t.1++[c],rm c t.2.1,t.2.2.wth k) (i+1):=by
 have hi:=z24 hn
 have hc:=((v3o B (hi.sub h.sub)).1 hb).1
 have hrl:=v5i h.nd hc
 have hkl:k<g.length:=(eAd.1 hk).1
 refine ⟨?_,by simp [h.olen],fun x hx=>h.sub x (z35.1 hx).1,h.nd.filter _,fun j d hj=>?_,?_⟩
 ·have:=h.len; simp only; omega
 ·simp only
  rw [Sg.has_wth _ (by omega),h.done j d hj]
  by_cases e:j=k
  ·subst e
   rw [hk] at hj; cases hj
   simp [z35]
  ·have hdc:d≠c:=by
    rintro rfl
    exact e ((v3r hn hj).symm.trans (v3r hn hk))
   simp [z35,e,hdc]
 ·simp only
  rw [←h.res, ←hrl]
  conv=>rhs; rw [lst]
  rw [hb]
  simp only [eCg,List.singleton_append,Nat.add_sub_cancel]
theorem u5h (IX:List (D×D)) (g:List Cd) (ss:List Sg) {B:Cd→Cd→Bool} (hr:Rp ss g B) (hgl:g.length≤128) (hn:(g.map (·.n)).Nodup) (hcan:u9v B g) (hw:∀ c∈g,1≤c.t.length∧c.t.length≤1000000):
  G67 std (z0p fl g,(IX,(z41 ss,(0,(g.length,())))))=some (z0p fl g,(IX,(z41 ss,(z0p (fun _=>false) (lst B g.length g),(0,(g.length,())))))):=by
 have hi:=z24 hn
 have key:=y6h (b:=v8h std) g.length (fun (t:List Cd×List Cd×Sg) i=>(z0p fl g,(IX,(z41 ss,(z0p (fun _=>false) t.1,(0,(g.length,((t.2.2.a:Int),((t.2.2.b:Int),((g.length:Int),((i:Int),())))))))))))
  (u9g B g) (fun r=>r=(z0p fl g,(IX,(z41 ss,(z0p (fun _=>false) (lst B g.length g),(0,(g.length,())))))))
  (fun t i hlt hI=> .inl (by
   obtain ⟨hw2,h0⟩:=stp i (by omega)
   have hlt':(i:Int)<g.length:=by omega
   have hne:t.2.1≠[]:=by intro e; have:=hI.len; rw [e] at this; simp at this; omega
   obtain ⟨c,hb⟩:=hcan t.2.1 hI.sub hne
   obtain ⟨k,h2,hk⟩:=v9j (fl:=fl) (z0p (fun _=>false) t.1) IX g t.2.1 ss hr hgl hi hI.sub hI.done (t.2.2.a:Int) (t.2.2.b:Int) (g.length:Int) (i:Int) hb
   have hkl:k<g.length:=(eAd.1 hk).1
   have h72:=u0l t.2.2 k (by omega)
   have hc:=hw c (eAu hk)
   have h75:=u5f c hc.1 hc.2
   refine ⟨(t.1++[c],rm c t.2.1,t.2.2.wth k),?_,v7z hn hgl hI hb hk⟩
   have hrow:=v43 (fl:=fl) hk
   have hk1:(0:Int)≤(k:Int):=by omega
   have hk2:(k:Int)<(g.length:Int):=by omega
   have ho:=hI.olen
   have e1:i+1≤1000000:=by omega
   have e4:(t.1.map (eC fun _=>false)).length=i:=by simp [ho]
   have e5:(t.1.map (eC fun _=>false)).take i=t.1.map (eC fun _=>false):=by rw [←e4,eDf]
   have hgle:(ss.map eS).length=g.length:=by rw [eBt,hr.1]
   simp only [z0p,z41,z1a] at h2 h75
   simp only [v8h,z2d,z2e,z0p,z1a,z5s,y4y,z41,z0p,z1a,z4b,Int.reduceLT,Int.reduceEq,Int.reduceLE,hlt',h0,hw2,h2,hgle,h72,hrow,h75,hk1,hk2,e1,e4,e5,eAp,eAk,eDj]
   simp [eC,z1a,e1,e4,e5]))
  (fun t hI=>⟨(z0p fl g,(IX,(z41 ss,(z0p (fun _=>false) t.1,(0,(g.length,())))))),by
   have hno:¬ (g.length:Int)<g.length:=by omega
   simp only [v8h,z2d,z2e,hno,if_false,z4b,Int.reduceLT,Int.reduceEq,Int.reduceLE],by
   have h0:t.2.1=[]:=eBn.1 (by have:=hI.len; omega)
   have:=hI.res
   rw [h0] at this
   simp only [List.length_nil,lst,eCn] at this
   simp only [this]⟩) ([],g,Sg.none) 0 (eAv _) ⟨by simp,rfl,fun x h=>h,z37 hn,fun k c hk=>by rw [Sg.has_none]; simp [eAu hk],rfl⟩
 obtain ⟨r,h1,rfl⟩:=key
 have h1:z5r (v8h std) (z0p fl g,(IX,(z41 ss,([],(0,(g.length,((0:Int),((0:Int),((g.length:Int),((0:Int),()))))))))))=_:=h1
 unfold G67
 simp only [z2d,z2e,h1]
end Go.Am
end
section
namespace Go.Am
open D12
variable {fl fl':List Int→Bool}
theorem v22 {l:List Cd} (h:(l.map (·.n)).Nodup):z36 [l]=l:=by
 have:∀ (q p:List Cd),((p++q).map (·.n)).Nodup→q.foldl v6c p=p++q:=by
  intro q
  induction q with
  |nil=>intro p _; simp
  |cons c q ih=>
   intro p hp
   have hno:(p.any fun d=>decide (d.n=c.n))=false:=by
    rw [List.any_eq_false]
    intro d hd
    simp only [decide_eq_true_eq]
    rw [eDu,eDg] at hp
    exact fun e=>hp.2.2 d.n (List.mem_map_of_mem hd) c.n (by simp) e
   have e:p++c::q=(p++[c])++q:=by simp
   rw [eDs]
   have:v6c p c=p++[c]:=by unfold v6c; rw [hno]; rfl
   rw [this,e]
   exact ih _ (by rw [←e]; exact hp)
 exact this l [] (by simpa using h)
theorem z21 {l:List Cd} (h:z4y l=0):l.length≤60∧(l.map (·.n)).Nodup∧l.Nodup∧(∀ c∈l,z3d c=0)∧(∀ c∈l,1≤c.t.length∧c.t.length≤3∧c.t.Nodup):=by
 obtain ⟨h1,h2,h3⟩:=z53.1 h
 refine ⟨h1,h3,z37 h3,h2,fun c hc=>?_⟩
 obtain ⟨a,b,c1,d,e,f⟩:=z57.1 (h2 c hc)
 refine ⟨?_,?_,e⟩
 ·omega
 ·have:z3a c.k≤3:=by unfold z3a; split<;>(try split)<;>(try split)<;>omega
  omega
theorem v3f {l:List Cd} (h:z4y l=0):u9t (z36 [l]) [l]:=by
 obtain ⟨h1,h2,h3,h4,h5⟩:=z21 h
 refine ⟨by rw [v22 h2]; exact h2,fun m hm c hc=>?_,fun m hm=>?_⟩
 ·rw [eBe.1 hm] at hc; rw [v22 h2]; exact hc
 ·rw [eBe.1 hm]; exact ⟨h1,h3,fun c hc=>⟨(h5 c hc).2.2,by have:=(h5 c hc).2.1; omega⟩⟩
theorem v74 {l:List Cd} (h:z4y l=0):∃ ss,G66 std ([[.list false 4 (z0p fl l)]],())=some (z0p fl l,(z75 (ixM l),(z41 ss,(0,(l.length,())))))∧Rp ss l (ltc l):=by
 obtain ⟨h1,h2,h3,h4,h5⟩:=z21 h
 have g:=u5i (fl:=fl) [l] (by simp) (v3f h)
 have hs:=u0v (g:=z36 [l]) (dks:=[l]) (v3f h).nums (by rw [v22 h2]; omega) (fun m hm=>⟨(v3f h).mem m hm,((v3f h).wf m hm).2.1,fun c hc=>(((v3f h).wf m hm).2.2 c hc).1⟩)
 rw [v22 h2] at g hs
 exact ⟨_,g,hs.congr fun d _ c _=>by simp⟩
theorem u1g {l:List Cd} (hn:l.Nodup):Lin (ltc l) l:=by
 have h:=v3y hn
 have hf:∀ x y,ord l x y=false→ltc l x y=false:=fun x y h=>by
  cases hq:ltc l x y with
  |false=>rfl
  |true=>rw [(v7v hq).1] at h; cases h
 exact ⟨h.1.imp fun h=>hf _ _ h,fun x hx=>hf _ _ (h.2 x hx)⟩
theorem v70 {l:List Cd} (hm:(l.map (·.n)).Nodup):lst (ltc l) l.length l=z20 l:=by
 have hn:=z37 hm
 exact v5m l (fun x _ y _ h=>(v7v h).1) (fun x hx y hy h=>by
  rcases u1c hn hx hy h with h|⟨z,hz,h1,h2⟩
  ·exact .inl h
  ·exact .inr ⟨z,hz,h1,h2⟩) (z24 hm) l.length l (fun x h=>h) (fun x _ y hy hno _=>absurd hy hno)
theorem v32 {l:List Cd} (h:z4y l=0):∃ IX ss,G66 std ([[.list false 4 (z0p fl l)]],())=some (z0p fl l,(IX,(z41 ss,(0,(l.length,())))))∧
  G67 std (z0p fl l,(IX,(z41 ss,(0,(l.length,())))))=some (z0p fl l,(IX,(z41 ss,(z0p (fun _=>false) (z20 l),(0,(l.length,())))))):=by
 obtain ⟨h1,h2,h3,h4,h5⟩:=z21 h
 obtain ⟨ss,g,hr⟩:=v74 (fl:=fl) h
 have h67:=u5h (fl:=fl) (z75 (ixM l)) l ss hr (by omega) h2 (v9h (u1g h3) fun x h=>h) (fun c hc=>⟨(h5 c hc).1,by have:=(h5 c hc).2.1; omega⟩)
 rw [v70 h2] at h67
 exact ⟨_,ss,g,h67⟩
theorem u0p (l:List Cd) (hf:Few l):G29 std (z0p fl l,())=some ((if z4y l=0 then z0p (fun _=>false) (z20 l) else []),(z4y l,())):=by
 have h19:=w3q (fl:=fl) l hf
 unfold G29
 by_cases h:z4y l=0
 ·obtain ⟨IX,ss,g66,g67⟩:=v32 (fl:=fl) h
  simp only [z2d,z2e,z4b,Int.reduceLT,Int.reduceEq,Int.reduceLE,h19,h,g66,g67]
 ·simp only [z2d,z2e,z4b,Int.reduceLT,Int.reduceEq,Int.reduceLE,h19,h]
end Go.Am
end
section
namespace Go.Am
open D12
variable {fl fl':List Int→Bool}
def ixO (b:List Th) (x:Int):Option Nat:=(List.range b.length).find? fun i=>decide ((b.getD i default).num=x)
theorem v72 (b:List Th) (x:Int):(ixO b x).map (fun i=>b.getD i default)=fnd b x:=x4f b default fun t=>decide (t.num=x)
theorem v85 {b:List Th} {x:Int} {i:Nat} (h:ixO b x=some i):∃ t,b[i]?=some t∧t.num=x∧fnd b x=some t∧i<b.length:=by
 have h1:=List.find?_some h
 have h2:=eBo.1 (eDb h)
 obtain ⟨t,ht⟩:=z1v h2
 have e:b.getD i default=t:=z2h ht
 rw [e] at h1
 refine ⟨t,ht,by simpa using h1,?_,h2⟩
 rw [←v72,h]
 simp only [eBh,e]
theorem v86 {b:List Th} {x:Int} (h:ixO b x=none):fnd b x=none:=by rw [←v72,h]; rfl
theorem v97 {b:List Th} {x:Int} {t:Th} (h:fnd b x=some t):∃ i,ixO b x=some i∧b[i]?=some t∧t.num=x∧i<b.length:=by
 cases hq:ixO b x with
 |none=>rw [v86 hq] at h; cases h
 |some i=>
  obtain ⟨t',h1,h2,h3,h4⟩:=v85 hq
  rw [h] at h3; cases h3
  exact ⟨i,rfl,h1,h2,h4⟩
end Go.Am
end
section
namespace Go.Am
open D12
variable {fl fl':List Int→Bool}
def v4d (b:List Th):Prop:=b.length≤1000∧(b.map (·.num)).Nodup∧∀ t∈b,0≤t.val∧t.val≤1000000∧0≤t.hrs∧t.hrs≤10000
theorem v5l (s:Sf) (l:List Int):x2h s l=match l.find? fun x=>!decide (w6m s x=0) with
 |some x=>w6m s x
 |none=>0:=by
 induction l with
 |nil=>rfl
 |cons x l ih=>
  unfold x2h
  by_cases h:w6m s x=0
  ·simp only [h,if_true,List.find?_cons,decide_true,Bool.not_true]; exact ih
  ·simp [h]
theorem v7l {b:List Th} {x:Int} {i:Nat} {t:Th} {f:Th→Th} (hn:(b.map (·.num)).Nodup) (hi:b[i]?=some t) (ht:t.num=x):upd b x f=b.set i (f t):=by
 unfold upd
 apply eBd
 intro j
 have hil:i<b.length:=(eAd.1 hi).1
 rw [eAg,eBm]
 by_cases hj:i=j
 ·subst hj
  have e1:b[i]=t:=(eAd.1 hi).2
  simp [hi,ht,hil,e1]
 ·rw [if_neg hj]
  cases hq:b[j]? with
  |none=>rfl
  |some u=>
   have hu:u.num≠x:=by
    intro e
    have hjl:j<b.length:=(eAd.1 hq).1
    have e1:b[i]=t:=(eAd.1 hi).2
    have e2:b[j]=u:=(eAd.1 hq).2
    exact hj ((List.getElem_inj (xs:=b.map (·.num)) (i:=i) (j:=j) (h₀:=by simpa using hil) (h₁:=by simpa using hjl) hn).1 (by simp [e1,e2,ht,e]))
   simp [hu]
end Go.Am
end
section
namespace Go.Am
open D12
theorem z32 {s:Sf} {x:Int} (h:w6m s x=0):∃ t,s x=some t∧t.out=false:=by
 unfold w6m at h
 cases hq:s x with
 |none=>rw [hq] at h; simp at h
 |some t=>
  rw [hq] at h
  cases ho:t.out with
  |true=>simp [ho] at h
  |false=>exact ⟨t,rfl,ho⟩
theorem z70 {s:Sf}:∀ {l:List Int},x2h s l=0→∀ x∈l,w6m s x=0
 |[],_,x,hx=>by cases hx
 |y::l,h,x,hx=>by
  unfold x2h at h
  by_cases hy:w6m s y=0
  ·rw [if_pos hy] at h
   rcases eAz.1 hx with rfl|hx
   ·exact hy
   ·exact z70 h x hx
  ·rw [if_neg hy] at h; exact absurd h hy
theorem v81 {v a:Int} (hv0:0≤v) (hv:v≤1000000) (ha0:0≤a) (ha:a≤100000):IntKind.i64.wrap (v*a)=v*a∧0≤v*a∧v*a≤100000000000:=by
 have h1:0≤v*a:=Int.mul_nonneg hv0 ha0
 have h2:v*a≤1000000*100000:=Int.mul_le_mul hv ha ha0 (by omega)
 exact ⟨w21 _ (by omega) (by omega),h1,by omega⟩
theorem u2z {b:List Th} {x:Int} {f:Th→Th} (h:∀ t,f t=t):upd b x f=b:=by
 unfold upd
 conv=>rhs; rw [←List.map_id b]
 apply eDw
 intro t _
 simp [h]
end Go.Am
end
section
namespace Go.Am
open D12
variable {fl fl':List Int→Bool}
def v7i (m:Nat) (b:List Th):Prop:=b.length≤m∧(b.map (·.num)).Nodup∧∀ t∈b,0≤t.val∧t.val≤1000000∧0≤t.hrs∧t.hrs≤10000
theorem v7i.ok {m:Nat} {b:List Th} (h:v7i m b) (hm:m≤1000):v4d b:=⟨by have:=h.1; omega,h.2⟩
theorem v26 {b:List Th} {x:Int} (h:fnd b x=none):x∉b.map (·.num):=by
 intro hx
 obtain ⟨t,ht,rfl⟩:=eBb.1 hx
 have:=List.find?_eq_none.1 h t ht
 simp at this
theorem v6f {b:List Th} {x:Int} {f:Th→Th} (hf:∀ t,(f t).num=t.num):(upd b x f).map (·.num)=b.map (·.num):=by
 unfold upd
 rw [List.map_map]
 apply eDw
 intro t _
 simp only [Function.comp_def]
 split
 ·exact hf t
 ·rfl
theorem u2y {m:Nat} {b:List Th} (hb:v7i m b) (x:Int):0≤x92 (fnd b) x∧x92 (fnd b) x≤1000000:=by
 unfold x92
 cases hq:fnd b x with
 |none=>simp
 |some t=>
  have:=hb.2.2 t (eDb hq)
  simp; omega
theorem u1b {m:Nat} {b:List Th} {c:Cd} (hb:v7i m b) (hc:z3d c=0):v7i (m+1) (z64 b c):=by
 obtain ⟨_,hk,hlen,_,hnd,hfit⟩:=z57.1 hc
 obtain ⟨h1,h2,h3⟩:=hb
 unfold z64
 split
 ·exact ⟨by omega,h2,h3⟩
 ·rename_i he
  have he:errC (fnd b) c=0:=by simpa using he
  split
  ·rename_i hk1
   have hn:fnd b (x0 c)=none:=by
    unfold errC at he
    rw [if_pos hk1] at he
    cases hq:fnd b (x0 c) with
    |none=>rfl
    |some t=>rw [hq] at he; simp at he
   have ha:1≤c.a∧c.a≤1000000:=by unfold w1p at hfit; omega
   refine ⟨by simp; omega,?_,fun t ht=>?_⟩
   ·rw [eDu,eDg]
    refine ⟨h2,by simp,fun a ha b' hb'=>?_⟩
    simp at hb'
    subst hb'
    exact fun e=>v26 hn (e▸ha)
   ·rcases eBj.1 ht with ht|ht
    ·exact h3 t ht
    ·simp at ht; subst ht; simp; omega
  ·rename_i hk1
   have turn_ok:∀ t∈upd b (x0 c) (v17 (fnd b) c),0≤t.val∧t.val≤1000000∧0≤t.hrs∧t.hrs≤10000:=by
    intro t ht
    unfold upd at ht
    obtain ⟨u,hu,rfl⟩:=eBb.1 ht
    have hu3:=h3 u hu
    split
    ·rename_i hx
     unfold v17
     split
     ·rename_i hk2
      have hfu:fnd b (x0 c)=some u:=by
       cases hq:fnd b (x0 c) with
       |none=>exact absurd (hx▸eBb.2 ⟨u,hu,rfl⟩) (v26 hq)
       |some v=>
        obtain ⟨i,_,hbi,hnum,_⟩:=v97 hq
        obtain ⟨j,hj,hju⟩:=eDi.1 hu
        have hil:i<b.length:=(eAd.1 hbi).1
        have hiv:b[i]=v:=(eAd.1 hbi).2
        have:=(List.getElem_inj (xs:=b.map (·.num)) (i:=i) (j:=j) (h₀:=by simpa using hil) (h₁:=by simpa using hj) h2).1 (by simp [hiv,hju,hnum,hx])
        subst this
        rw [←hiv,hju]
      have ha:1≤c.a∧c.a≤10000:=by unfold w1p at hfit; omega
      have hh:hrsS (fnd b) (x0 c)=u.hrs:=by simp [hrsS,hfu]
      have:¬ 10000<u.hrs+c.a:=by
       intro h4
       unfold errC at he
       rw [if_neg hk1] at he
       split at he
       ·rename_i hne; exact hne he
       ·first|(rw [if_pos hk2,hh,if_pos h4] at he; omega)|(rw [hh,if_pos h4] at he; omega)
      simp; omega
     ·split
      ·rename_i hk2 hk3
       have h4:¬ ((x92 (fnd b) (x1 c)*c.a).tdiv 1000<1∨1000000<(x92 (fnd b) (x1 c)*c.a).tdiv 1000):=by
        intro h4
        unfold errC at he
        rw [if_neg hk1] at he
        split at he
        ·rename_i hne; exact hne he
        ·first|(rw [if_neg hk2,if_pos hk3,if_pos h4] at he; omega)|omega
       simp only [not_or] at h4
       simp; omega
      ·split
       ·simpa using hu3
       ·exact hu3
    ·exact hu3
   split
   ·rename_i hk4
    have hn:fnd b (x1 c)=none:=by
     unfold errC at he
     rw [if_neg hk1] at he
     split at he
     ·rename_i hne; exact absurd he hne
     ·simp only [hk4,Int.reduceEq,if_false,if_true] at he
      cases hq:fnd b (x1 c) with
      |none=>rfl
      |some t=>rw [hq] at he; simp at he
    refine ⟨by simp [upd]; omega,?_,fun t ht=>?_⟩
    ·rw [eDu,eDg,v6f (v27 _ _)]
     refine ⟨h2,by simp,fun a ha b' hb'=>?_⟩
     simp at hb'
     subst hb'
     exact fun e=>v26 hn (e▸ha)
    ·rcases eBj.1 ht with ht|ht
     ·exact turn_ok t ht
     ·simp at ht; subst ht
      have:=u2y (m:=m) ⟨h1,h2,h3⟩ (x0 c)
      simp; omega
   ·exact ⟨by simp [upd]; omega,by rw [v6f (v27 _ _)]; exact h2,turn_ok⟩
theorem v5q (p:List Cd) (c:Cd):z26 (p++[c])=z64 (z26 p) c:=by simp [z26]
theorem v3u:∀ (l:List Cd),(∀ c∈l,z3d c=0)→v7i l.length (z26 l)∧fnd (z26 l)=st l:=by
 intro l
 induction hn:l.length generalizing l with
 |zero=>intro _; have:l=[]:=eBn.1 hn; subst this; exact ⟨⟨by simp [z26],by simp [z26],by simp [z26]⟩,rfl⟩
 |succ n ih=>
  intro h
  obtain ⟨p,c,rfl⟩:∃ p c,l=p++[c]:=by
   have hne:l≠[]:=by intro e; rw [e] at hn; simp at hn
   exact ⟨l.dropLast,l.getLast hne,(List.dropLast_concat_getLast hne).symm⟩
  have hc:=h c (by simp)
  obtain ⟨h1,h2⟩:=ih p (by simpa using hn) fun d hd=>h d (by simp [hd])
  have hw:=v7k hc
  rw [v5q,v42, ←h2]
  exact ⟨u1b h1 hc,v9b _ _ hw.1 fun h4=>u2x hw (by unfold z3a; simp [h4])⟩
theorem v78 (s:Sf) (p:List Cd) (c:Cd):v3k s (p++[c])=v3k s p++[errC (p.foldl after s) c]:=by
 induction p generalizing s with
 |nil=>rfl
 |cons d p ih=>simp [v3k,ih]
def no:Sf:=fun _=>none
theorem u6g (l:List Cd):l.foldl after no=st l:=rfl
end Go.Am
end
section
namespace Go.Am
open D12
variable {fl fl':List Int→Bool}
def EB:v5z Int Th:=⟨fun k=> .int .i64 k,fun t=> .agg (eTh t),[.i],false,true,[.int .i64, .int .i64, .int .i64, .bool]⟩
theorem v5w:EB.Ok where
 agg:=fun _=>rfl
 kinds:=fun _=>rfl
 eq:=fun a b=>by
  show (bif IntKind.i64==IntKind.i64 then (some (z3o .eql a b&&true)) else none)=_
  rw [eCc]; rfl
 vagg:=fun _=>rfl
 vok:=fun _=>rfl
def mb (b:List Th):List (Int×Th):=b.map fun t=>(t.num,t)
def z31 (b:List Th):List (D×D):=EB.enc (mb b)
theorem z63 (x:Int):∀ b:List Th,z22 (mb b) x=fnd b x
 |[]=>rfl
 |t::b=>by
  have ih:=z63 x b
  unfold fnd at*
  simp only [mb,eDc,z22,List.find?_cons] at ih⊢
  by_cases h:t.num=x
  ·simp [h]
  ·have h':¬ x=t.num:=fun e=>h e.symm
   simp [h,h',ih]
theorem u1a {b:List Th} {w:Th} (h:fnd b w.num=none):v4b (mb b) w.num w=mb (b++[w]):=by
 unfold v4b
 rw [z63,h]
 simp [mb]
theorem u0z {b:List Th} {x:Int} {t w:Th} (hn:(b.map (·.num)).Nodup) (h:fnd b x=some t) (hw:w.num=x):v4b (mb b) x w=mb (upd b x fun _=>w):=by
 unfold v4b
 rw [z63,h]
 have key:∀ b:List Th,(b.map (·.num)).Nodup→(fnd b x).isSome=true→v90 (mb b) x w=mb (upd b x fun _=>w):=by
  intro b
  induction b with
  |nil=>intro _ h; simp [fnd] at h
  |cons u b ih=>
   intro hn h
   simp only [eDc,eDt] at hn
   unfold fnd at h ih
   simp only [mb,upd,eDc,v90,List.find?_cons] at h ih⊢
   by_cases he:u.num=x
   ·have:∀ v∈b,v.num≠x:=fun v hv e=>hn.1 (he▸e▸eBb.2 ⟨v,hv,rfl⟩)
    have e2:(b.map fun t=>if t.num=x then w else t)=b:=by
     conv=>rhs; rw [←List.map_id b]
     exact eDw fun v hv=>by simp [this v hv]
    simp [he,hw,e2]
   ·have he':¬ x=u.num:=fun e=>he e.symm
    simp [he,he'] at h⊢
    have:=ih hn.2 (by simpa using h)
    simpa [mb,upd] using this
 exact key b hn (by rw [h]; rfl)
section
variable (b:List Th) (x:Int)
theorem v41:std.mOk (z31 b) [SK.i] false (.int .i64 x) true [.int .i64, .int .i64, .int .i64, .bool]=true:=v53 v5w (mb b) x
theorem z76:std.mhas (z31 b) [SK.i] false (.int .i64 x)=(fnd b x).isSome:=by rw [←z63]; exact v45 v5w (mb b) x
variable {b x} {t:Th} (h:fnd b x=some t)
include h
theorem B_0:std.mI (z31 b) [SK.i] false (.int .i64 x) 0=t.num:=v31 v5w (mb b) x 0 (by rw [z63]; exact h)
theorem B_1:std.mI (z31 b) [SK.i] false (.int .i64 x) 1=t.val:=v31 v5w (mb b) x 1 (by rw [z63]; exact h)
theorem B_2:std.mI (z31 b) [SK.i] false (.int .i64 x) 2=t.hrs:=v31 v5w (mb b) x 2 (by rw [z63]; exact h)
theorem B_3:std.mB (z31 b) [SK.i] false (.int .i64 x) 3=t.out:=u3j v5w (mb b) x 3 (by rw [z63]; exact h)
theorem u2r (hn:(b.map (·.num)).Nodup) (n v r:Int) (o:Bool) (hw:n=x):
  std.mset (z31 b) (std.mpos (z31 b) [SK.i] false (.int .i64 x)) (.int .i64 x) (.agg [.int .i64 n, .int .i64 v, .int .i64 r, .bool o])=z31 (upd b x fun _=>⟨n,v,r,o⟩):=by
 have:=v6m v5w (mb b) x (by rw [z63]; exact h) ⟨n,v,r,o⟩
 rw [u0z hn h hw] at this
 exact this
end
theorem u9j {b:List Th} {x:Int} (h:fnd b x=none) (v r:Int) (o:Bool):std.madd (z31 b) (.int .i64 x) (.agg [.int .i64 x, .int .i64 v, .int .i64 r, .bool o])=z31 (b++[⟨x,v,r,o⟩]):=by
 have:=v47 v5w (mb b) x (by rw [z63]; exact h) ⟨x,v,r,o⟩
 have e:=u1a (w:=⟨x,v,r,o⟩) h
 simp only at e
 rw [e] at this
 exact this
theorem v4c (b:List Th) (l:List Int) (hl:l.length≤1000):v8w std (z31 b,(z1a l,()))=some (z31 b,(x2h (fnd b) l,())):=by
 unfold v8w
 have key:=z62 (b:=v39 std) l.length (fun i=>(z31 b,(z1a l,((l.length:Int),((i:Int),()))))) (fun i=>!decide (w6m (fnd b) (l.getD i default)=0)) (fun i=> .inl (z31 b,(w6m (fnd b) (l.getD i default),()))) (.inr (z31 b,())) (fun i hi=>by
  obtain ⟨y,hy⟩:=z1v hi
  obtain ⟨hw,h0⟩:=stp i (by omega)
  have hlt:(i:Int)<l.length:=by omega
  cases hq:fnd b y with
  |none=>
   have he:w6m (fnd b) y=5:=by simp [w6m,hq]
   have hh:(fnd b y).isSome=false:=by rw [hq]; rfl
   simp only [z2h hy,v39,z2d,z2e,z1a,y8q,w5s,z4b,Int.reduceLT,Int.reduceEq,Int.reduceLE,hy,hlt,h0,hw,v41,z76,hh,he,eAg,eBh]
  |some t=>
   have hh:(fnd b y).isSome=true:=by rw [hq]; rfl
   have h3:=B_3 hq
   cases ho:t.out with
   |true=>
    have he:w6m (fnd b) y=9:=by simp [w6m,hq,ho]
    rw [ho] at h3
    simp only [z2h hy,v39,z2d,z2e,z1a,y8q,w5s,z4b,Int.reduceLT,Int.reduceEq,Int.reduceLE,hy,hlt,h0,hw,v41,z76,hh,he,h3,eAg,eBh]
   |false=>
    have he:w6m (fnd b) y=0:=by simp [w6m,hq,ho]
    rw [ho] at h3
    simp only [z2h hy,v39,z2d,z2e,z1a,y8q,w5s,z4b,Int.reduceLT,Int.reduceEq,Int.reduceLE,hy,hlt,h0,hw,v41,z76,hh,he,h3,eAg,eBh]) (by
  have hn:¬ (l.length:Int)<l.length:=by omega
  simp only [v39,z2d,z2e,hn,if_false])
 have key:z5r (v39 std) (z31 b,(z1a l,((l.length:Int),((0:Int),()))))=_:=key
 have e:=x4f l default fun x=>!decide (w6m (fnd b) x=0)
 rw [v5l, ←e]
 have hlen:(z1a l).length=l.length:=by simp [z1a]
 simp only [z2d,z2e,hlen,key]
 cases hq:(List.range l.length).find? fun i=>!decide (w6m (fnd b) (l.getD i default)=0) with
 |none=>simp
 |some i=>simp
theorem v33 {b:List Th} {x:Int} {t:Th} (h:fnd b x=some t):t.num=x:=by
 have:=List.find?_some h
 simpa using this
theorem v8u (b:List Th) (x v:Int) (hx:x≠0):v93 std (z31 b,(x,(v,())))=some (if (fnd b x).isSome=true then (z31 b,(11,())) else (z31 (b++[⟨x,v,0,false⟩]),(0,()))):=by
 unfold v93
 cases hq:fnd b x with
 |none=>
  have hh:(fnd b x).isSome=false:=by rw [hq]; rfl
  have ha:=u9j hq v 0 false
  simp only [z2d,z2e,z4b,Int.reduceLT,Int.reduceEq,Int.reduceLE,v41,z76,hh,ha,v7n]
  simp
 |some t=>
  have hh:(fnd b x).isSome=true:=by rw [hq]; rfl
  have h0:=B_0 hq
  have hn:=v33 hq
  have hn0:¬ t.num=0:=by omega
  simp only [z2d,z2e,z4b,Int.reduceLT,Int.reduceEq,Int.reduceLE,v41,z76,hh,h0,hn0]
  simp [hn0]
theorem u2l (b:List Th) (x r lo hi:Int) (hn:(b.map (·.num)).Nodup) {t:Th} (h:fnd b x=some t):u2u std (z31 b,(x,(r,(lo,(hi,())))))=some (if lo≤r∧r≤hi then (z31 (upd b x fun _=>{ t with hrs:=r }),(0,())) else (z31 b,(4,()))):=by
 unfold u2u u5r
 have h56:=x9z lo hi [r] (by simp)
 have h56:G56 std (lo,(hi,([eI r],())))=some (!(decide (r<lo∨r>hi)||false),()):=h56
 have hh:(fnd b x).isSome=true:=by rw [h]; rfl
 have h0:=B_0 h
 have h1:=B_1 h
 have h2:=B_2 h
 have h3:=B_3 h
 have hs:=u2r h hn t.num t.val r t.out (v33 h)
 simp only [eI] at h56
 by_cases hb:lo≤r∧r≤hi
 ·have hd:decide (r<lo∨r>hi)=false:=by simp; omega
  rw [hd] at h56
  simp only [z2d,z2e,z4b,Int.reduceLT,Int.reduceEq,Int.reduceLE,v41,z76,hh,h0,h1,h2,h3,h56,hs]
  simp [hb]
 ·have hd:decide (r<lo∨r>hi)=true:=by simp; omega
  rw [hd] at h56
  simp only [z2d,z2e,z4b,Int.reduceLT,Int.reduceEq,Int.reduceLE,v41,z76,hh,h0,h1,h2,h3,h56,hs]
  simp [hb]
theorem v8t (b:List Th) (x r lo hi:Int) (hn:(b.map (·.num)).Nodup) {t:Th} (h:fnd b x=some t):v40 std (z31 b,(x,(r,(lo,(hi,())))))=some (if lo≤r∧r≤hi then (z31 (upd b x fun _=>{ t with val:=r }),(0,())) else (z31 b,(4,()))):=by
 unfold v40 u5q
 have h56:=x9z lo hi [r] (by simp)
 have h56:G56 std (lo,(hi,([eI r],())))=some (!(decide (r<lo∨r>hi)||false),()):=h56
 have hh:(fnd b x).isSome=true:=by rw [h]; rfl
 have h0:=B_0 h
 have h1:=B_1 h
 have h2:=B_2 h
 have h3:=B_3 h
 have hs:=u2r h hn t.num r t.hrs t.out (v33 h)
 simp only [eI] at h56
 by_cases hb:lo≤r∧r≤hi
 ·have hd:decide (r<lo∨r>hi)=false:=by simp; omega
  rw [hd] at h56
  simp only [z2d,z2e,z4b,Int.reduceLT,Int.reduceEq,Int.reduceLE,v41,z76,hh,h0,h1,h2,h3,h56,hs]
  simp [hb]
 ·have hd:decide (r<lo∨r>hi)=true:=by simp; omega
  rw [hd] at h56
  simp only [z2d,z2e,z4b,Int.reduceLT,Int.reduceEq,Int.reduceLE,v41,z76,hh,h0,h1,h2,h3,h56,hs]
  simp [hb]
theorem v5u (b:List Th) (x:Int) (hn:(b.map (·.num)).Nodup) {t:Th} (h:fnd b x=some t):v3p std (z31 b,(x,(0,(0,(0,())))))=some (z31 (upd b x fun _=>{ t with out:=true }),(0,())):=by
 unfold v3p u5s
 have h56:=x9z 0 0 [0] (by simp)
 have h56:G56 std (0,(0,([eI 0],())))=some (true,()):=h56
 have hh:(fnd b x).isSome=true:=by rw [h]; rfl
 have h0:=B_0 h
 have h1:=B_1 h
 have h2:=B_2 h
 have h3:=B_3 h
 have hs:=u2r h hn t.num t.val t.hrs true (v33 h)
 simp only [eI] at h56
 simp only [z2d,z2e,z4b,Int.reduceLT,Int.reduceEq,Int.reduceLE,v41,z76,hh,h0,h1,h2,h3,h56,hs]
end Go.Am
end
section
namespace Go.Am
open D12
variable {fl fl':List Int→Bool}
theorem v3b {b:List Th} {x:Int} {t:Th} {f:Th→Th} (hn:(b.map (·.num)).Nodup) (h:fnd b x=some t):upd b x f=upd b x fun _=>f t:=by
 obtain ⟨i,_,hbi,hnum,_⟩:=v97 h
 rw [v7l hn hbi hnum,v7l hn hbi hnum]
theorem u6a (b:List Th) (n x a:Int) (hx:x≠0):v4e std (z31 b,(n,(1,(z1a [x],(a,())))))=some (z31 (z64 b ⟨n,1,[x],a⟩),(errC (fnd b) ⟨n,1,[x],a⟩,())):=by
 have h:=v8u b x a hx
 have he:errC (fnd b) ⟨n,1,[x],a⟩=if (fnd b x).isSome then 11 else 0:=by unfold errC x0; simp
 have hp:z64 b ⟨n,1,[x],a⟩=if (fnd b x).isSome then b else b++[⟨x,a,0,false⟩]:=by
  unfold z64
  rw [he]
  cases (fnd b x).isSome<;>simp [x0]
 rw [he,hp]
 unfold v4e
 cases hh:(fnd b x).isSome with
 |true=>
  rw [hh] at h
  simp only [z2d,z2e,z1a,y8q,w5s,z4b,Int.reduceLT,Int.reduceEq,Int.reduceLE,eDc,eDh]
  simp [h,y8q,w5s]
 |false=>
  rw [hh] at h
  simp only [z2d,z2e,z1a,y8q,w5s,z4b,Int.reduceLT,Int.reduceEq,Int.reduceLE,eDc,eDh]
  simp [h,y8q,w5s]
set_option maxHeartbeats 2000000 in
theorem u5z (b:List Th) (n x a:Int) (hb:v4d b) (ha:1≤a∧a≤10000):v4e std (z31 b,(n,(2,(z1a [x],(a,())))))=some (z31 (z64 b ⟨n,2,[x],a⟩),(errC (fnd b) ⟨n,2,[x],a⟩,())):=by
 have hN:=v4c b [x] (by simp)
 have hnx:x2h (fnd b) [x]=w6m (fnd b) x:=by simp [x2h]; intro h; exact h.symm
 have hn2:x2h (fnd b) (D12.needs ⟨n,2,[x],a⟩)=w6m (fnd b) x:=by simpa [D12.needs] using hnx
 rw [hnx] at hN
 have hN:v8w std (z31 b,([eI x],()))=some (z31 b,(w6m (fnd b) x,())):=hN
 by_cases he:w6m (fnd b) x=0
 ·obtain ⟨t,ht,_⟩:=z32 he
  have htm:=eDb ht
  obtain ⟨v1,v2,v3,v4⟩:=hb.2.2 t htm
  have hw:IntKind.i64.wrap (t.hrs+a)=t.hrs+a:=w21 _ (by omega) (by omega)
  have hhr:hrsS (fnd b) x=t.hrs:=by simp [hrsS,ht]
  have h139:=u2l b x (t.hrs+a) 0 10000 hb.2.1 ht
  have hh:(fnd b x).isSome=true:=by rw [ht]; rfl
  have h2:=B_2 ht
  have hep:errC (fnd b) ⟨n,2,[x],a⟩=if 10000<t.hrs+a then 4 else 0:=by
   unfold errC
   simp [hn2,he,x0,hhr]
  have hpp:z64 b ⟨n,2,[x],a⟩=if 10000<t.hrs+a then b else upd b x fun _=>{ t with hrs:=t.hrs+a }:=by
   unfold z64
   rw [hep]
   by_cases h4:10000<t.hrs+a
   ·simp [h4]
   ·simp [h4,x0]
    rw [v3b hb.2.1 ht]
    simp [v17]
  rw [hep,hpp]
  rw [he] at hN
  unfold v4e
  by_cases h4:10000<t.hrs+a
  ·have hlo:¬ (0≤t.hrs+a∧t.hrs+a≤10000):=by omega
   rw [if_neg hlo] at h139
   simp only [z2d,z2e,z1a,y8q,w5s,z4b,Int.reduceLT,Int.reduceEq,Int.reduceLE,eDc,eDh]
   simp [hN,y8q,w5s,v41,z76,hh,h2,hw,h139,h4]
  ·have hlo:0≤t.hrs+a∧t.hrs+a≤10000:=by omega
   rw [if_pos hlo] at h139
   simp only [z2d,z2e,z1a,y8q,w5s,z4b,Int.reduceLT,Int.reduceEq,Int.reduceLE,eDc,eDh]
   simp [hN,y8q,w5s,v41,z76,hh,h2,hw,h139,h4]
 ·have hep:errC (fnd b) ⟨n,2,[x],a⟩=w6m (fnd b) x:=by
   unfold errC
   simp [hn2,he]
  have hpp:z64 b ⟨n,2,[x],a⟩=b:=by
   unfold z64
   rw [hep,if_pos he]
  rw [hep,hpp]
  unfold v4e
  simp only [z2d,z2e,z1a,y8q,w5s,z4b,Int.reduceLT,Int.reduceEq,Int.reduceLE,eDc,eDh]
  simp [hN,y8q,w5s,he]
set_option maxHeartbeats 2000000 in
theorem u5w (b:List Th) (n x:Int) (hb:v4d b):v4e std (z31 b,(n,(5,(z1a [x],(0,())))))=some (z31 (z64 b ⟨n,5,[x],0⟩),(errC (fnd b) ⟨n,5,[x],0⟩,())):=by
 have hN:=v4c b [x] (by simp)
 have hnx:x2h (fnd b) [x]=w6m (fnd b) x:=by simp [x2h]; intro h; exact h.symm
 have hn2:x2h (fnd b) (D12.needs ⟨n,5,[x],0⟩)=w6m (fnd b) x:=by simpa [D12.needs] using hnx
 rw [hnx] at hN
 have hN:v8w std (z31 b,([eI x],()))=some (z31 b,(w6m (fnd b) x,())):=hN
 by_cases he:w6m (fnd b) x=0
 ·obtain ⟨t,ht,_⟩:=z32 he
  have h139:=v5u b x hb.2.1 ht
  have hh:(fnd b x).isSome=true:=by rw [ht]; rfl
  have hep:errC (fnd b) ⟨n,5,[x],0⟩=0:=by
   unfold errC
   simp [hn2,he]
  have hpp:z64 b ⟨n,5,[x],0⟩=upd b x fun _=>{ t with out:=true }:=by
   unfold z64
   rw [hep]
   simp [x0]
   rw [v3b hb.2.1 ht]
   simp [v17]
  rw [hep,hpp]
  rw [he] at hN
  unfold v4e
  simp only [z2d,z2e,z1a,y8q,w5s,z4b,Int.reduceLT,Int.reduceEq,Int.reduceLE,eDc,eDh]
  simp [hN,y8q,w5s,v41,z76,hh,h139]
 ·have hep:errC (fnd b) ⟨n,5,[x],0⟩=w6m (fnd b) x:=by
   unfold errC
   simp [hn2,he]
  have hpp:z64 b ⟨n,5,[x],0⟩=b:=by
   unfold z64
   rw [hep,if_pos he]
  rw [hep,hpp]
  unfold v4e
  simp only [z2d,z2e,z1a,y8q,w5s,z4b,Int.reduceLT,Int.reduceEq,Int.reduceLE,eDc,eDh]
  simp [hN,y8q,w5s,he]
set_option maxHeartbeats 2000000 in
theorem u5y (b:List Th) (n x y a:Int) (hb:v4d b) (ha:1≤a∧a≤100000):v4e std (z31 b,(n,(3,(z1a [x,y],(a,())))))=some (z31 (z64 b ⟨n,3,[x,y],a⟩),(errC (fnd b) ⟨n,3,[x,y],a⟩,())):=by
 have hN:=v4c b [x,y] (by simp)
 have hn2:D12.needs ⟨n,3,[x,y],a⟩=[x,y]:=rfl
 have hN:v8w std (z31 b,([eI x,eI y],()))=some (z31 b,(x2h (fnd b) [x,y],())):=hN
 by_cases he:x2h (fnd b) [x,y]=0
 ·obtain ⟨t,ht,_⟩:=z32 (z70 he x (by simp))
  obtain ⟨u,hu,_⟩:=z32 (z70 he y (by simp))
  obtain ⟨v1,v2,_,_⟩:=hb.2.2 u (eDb hu)
  obtain ⟨hw,w1,w2⟩:=v81 v1 v2 (by omega:0≤a) ha.2
  have hvy:x92 (fnd b) y=u.val:=by simp [x92,hu]
  have hq:IntKind.i64.wrap ((u.val*a).tdiv 1000)=(u.val*a).tdiv 1000:=w21 _ (by rw [Int.tdiv_eq_ediv_of_nonneg w1]; omega) (by rw [Int.tdiv_eq_ediv_of_nonneg w1]; omega)
  have hqq:std.ar .quo .i64 (std.ar .mul .i64 u.val a) 1000=(u.val*a).tdiv 1000:=by rw [v66,v4l,hw,hq]
  have h139:=v8t b x ((u.val*a).tdiv 1000) 1 1000000 hb.2.1 ht
  have hh:(fnd b x).isSome=true:=by rw [ht]; rfl
  have hhy:(fnd b y).isSome=true:=by rw [hu]; rfl
  have h1:=B_1 hu
  have hep:errC (fnd b) ⟨n,3,[x,y],a⟩=if (u.val*a).tdiv 1000<1∨1000000<(u.val*a).tdiv 1000 then 4 else 0:=by
   unfold errC
   simp [hn2,he,x1,hvy]
  have hpp:z64 b ⟨n,3,[x,y],a⟩=if (u.val*a).tdiv 1000<1∨1000000<(u.val*a).tdiv 1000 then b else upd b x fun _=>{ t with val:=(u.val*a).tdiv 1000 }:=by
   unfold z64
   rw [hep]
   by_cases h4:(u.val*a).tdiv 1000<1∨1000000<(u.val*a).tdiv 1000
   ·simp [h4]
   ·have hc:=v3b (f:=v17 (fnd b) ⟨n,3,[x,y],a⟩) hb.2.1 ht
    have htt:v17 (fnd b) ⟨n,3,[x,y],a⟩ t={ t with val:=(u.val*a).tdiv 1000 }:=by simp [v17,x1,hvy]
    rw [htt] at hc
    simp [h4,x0]
    exact hc
  rw [hep,hpp]
  rw [he] at hN
  generalize (u.val*a).tdiv 1000=q at*
  unfold v4e
  by_cases h4:q<1∨1000000<q
  ·have hlo:¬ (1≤q∧q≤1000000):=by omega
   rw [if_neg hlo] at h139
   simp only [z2d,z2e,z1a,y8q,w5s,z4b,Int.reduceLT,Int.reduceEq,Int.reduceLE,eDc,eDh]
   simp [hN,y8q,w5s,v41,z76,hh,hhy,h1,hqq,h139,h4]
  ·have hlo:1≤q∧q≤1000000:=by omega
   rw [if_pos hlo] at h139
   simp only [z2d,z2e,z1a,y8q,w5s,z4b,Int.reduceLT,Int.reduceEq,Int.reduceLE,eDc,eDh]
   simp [hN,y8q,w5s,v41,z76,hh,hhy,h1,hqq,h139,h4]
 ·have hep:errC (fnd b) ⟨n,3,[x,y],a⟩=x2h (fnd b) [x,y]:=by
   unfold errC
   simp [hn2,he]
  have hpp:z64 b ⟨n,3,[x,y],a⟩=b:=by
   unfold z64
   rw [hep,if_pos he]
  rw [hep,hpp]
  unfold v4e
  simp only [z2d,z2e,z1a,y8q,w5s,z4b,Int.reduceLT,Int.reduceEq,Int.reduceLE,eDc,eDh]
  simp [hN,y8q,w5s,he]
set_option maxHeartbeats 2000000 in
theorem u5v (b:List Th) (n x y z a:Int) (hb:v4d b) (ha:0≤a∧a≤1000000):v4e std (z31 b,(n,(6,(z1a [x,y,z],(a,())))))=some (z31 (z64 b ⟨n,6,[x,y,z],a⟩),(errC (fnd b) ⟨n,6,[x,y,z],a⟩,())):=by
 have hN:=v4c b [x,y,z] (by simp)
 have hn2:D12.needs ⟨n,6,[x,y,z],a⟩=[x,y,z]:=rfl
 have hN:v8w std (z31 b,([eI x,eI y,eI z],()))=some (z31 b,(x2h (fnd b) [x,y,z],())):=hN
 by_cases he:x2h (fnd b) [x,y,z]=0
 ·obtain ⟨t,ht,_⟩:=z32 (z70 he x (by simp))
  obtain ⟨u,hu,_⟩:=z32 (z70 he y (by simp))
  obtain ⟨v,hv,_⟩:=z32 (z70 he z (by simp))
  obtain ⟨t1,t2,_,_⟩:=hb.2.2 t (eDb ht)
  obtain ⟨u1,u2,_,_⟩:=hb.2.2 u (eDb hu)
  obtain ⟨v1,v2,_,_⟩:=hb.2.2 v (eDb hv)
  have e1:x92 (fnd b) x=t.val:=by simp [x92,ht]
  have e2:x92 (fnd b) y=u.val:=by simp [x92,hu]
  have e3:x92 (fnd b) z=v.val:=by simp [x92,hv]
  have hx:(fnd b x).isSome=true:=by rw [ht]; rfl
  have hy:(fnd b y).isSome=true:=by rw [hu]; rfl
  have hz:(fnd b z).isSome=true:=by rw [hv]; rfl
  have b1:=B_1 ht
  have b2:=B_1 hu
  have b3:=B_1 hv
  have hep:errC (fnd b) ⟨n,6,[x,y,z],a⟩=if a<t.val+u.val - v.val∨a< -(t.val+u.val - v.val) then 23 else 0:=by
   unfold errC
   simp [hn2,he,x0,x1,x2,e1,e2,e3]
  have hpp:z64 b ⟨n,6,[x,y,z],a⟩=b:=by
   unfold z64
   rw [hep]
   split
   ·rfl
   ·simp
    exact u2z fun t=>by simp [v17]
  rw [hep,hpp]
  rw [he] at hN
  have q1:std.ar .sub .i64 (IntKind.i64.wrap (t.val+u.val)) v.val=t.val+u.val - v.val:=by
   rw [z84,w21 (t.val+u.val) (by omega) (by omega),w21 _ (by omega) (by omega)]
  have q2:std.ar .sub .i64 0 a= -a:=by
   rw [z84,w21 _ (by omega) (by omega)]; omega
  have h56:=x9z (-a) a [t.val+u.val - v.val] (by simp)
  generalize t.val+u.val - v.val=q at*
  have h56:G56 std (-a,(a,([[.int .i64 q]],())))=some (!(decide (q< -a∨q>a)||false),()):=h56
  unfold v4e
  by_cases h4:a<q∨a< -q
  ·have hd:decide (q< -a∨q>a)=true:=by simp; omega
   rw [hd] at h56
   simp only [z2d,z2e,z1a,y8q,w5s,z4b,Int.reduceLT,Int.reduceEq,Int.reduceLE,eDc,eDh]
   simp [hN,y8q,w5s,v41,z76,hx,hy,hz,b1,b2,b3,q1,q2,h56,h4]
  ·have hd:decide (q< -a∨q>a)=false:=by simp; omega
   rw [hd] at h56
   simp only [z2d,z2e,z1a,y8q,w5s,z4b,Int.reduceLT,Int.reduceEq,Int.reduceLE,eDc,eDh]
   simp [hN,y8q,w5s,v41,z76,hx,hy,hz,b1,b2,b3,q1,q2,h56,h4]
 ·have hep:errC (fnd b) ⟨n,6,[x,y,z],a⟩=x2h (fnd b) [x,y,z]:=by
   unfold errC
   simp [hn2,he]
  have hpp:z64 b ⟨n,6,[x,y,z],a⟩=b:=by
   unfold z64
   rw [hep,if_pos he]
  rw [hep,hpp]
  unfold v4e
  simp only [z2d,z2e,z1a,y8q,w5s,z4b,Int.reduceLT,Int.reduceEq,Int.reduceLE,eDc,eDh]
  simp [hN,y8q,w5s,he]
theorem v63 (a b:List Th) (x:Int) (f:Th→Th):upd (a++b) x f=upd a x f++upd b x f:=by simp [upd]
set_option maxHeartbeats 2000000 in
theorem u5x (b:List Th) (n x y:Int) (hb:v4d b) (hxy:x≠y) (hy0:y≠0):v4e std (z31 b,(n,(4,(z1a [x,y],(0,())))))=some (z31 (z64 b ⟨n,4,[x,y],0⟩),(errC (fnd b) ⟨n,4,[x,y],0⟩,())):=by
 have hN:=v4c b [x] (by simp)
 have hnx:x2h (fnd b) [x]=w6m (fnd b) x:=by simp [x2h]; intro h; exact h.symm
 have hn2:x2h (fnd b) (D12.needs ⟨n,4,[x,y],0⟩)=w6m (fnd b) x:=by simpa [D12.needs] using hnx
 rw [hnx] at hN
 have hN:v8w std (z31 b,([eI x],()))=some (z31 b,(w6m (fnd b) x,())):=hN
 by_cases he:w6m (fnd b) x=0
 ·obtain ⟨t,ht,_⟩:=z32 he
  have hh:(fnd b x).isSome=true:=by rw [ht]; rfl
  have h1:=B_1 ht
  have h136:=v8u b y t.val hy0
  have hvx:x92 (fnd b) x=t.val:=by simp [x92,ht]
  have hep:errC (fnd b) ⟨n,4,[x,y],0⟩=if (fnd b y).isSome=true then 11 else 0:=by
   unfold errC
   simp [hn2,he,x1]
  rw [he] at hN
  cases hy:(fnd b y).isSome with
  |true=>
   rw [hy] at h136 hep
   have hep:errC (fnd b) ⟨n,4,[x,y],0⟩=11:=by rw [hep]; rfl
   have hpp:z64 b ⟨n,4,[x,y],0⟩=b:=by unfold z64; rw [hep]; rfl
   have h136:v93 std (z31 b,(y,(t.val,())))=some (z31 b,(11,())):=h136
   rw [hep,hpp]
   unfold v4e
   simp only [z2d,z2e,z1a,y8q,w5s,z4b,Int.reduceLT,Int.reduceEq,Int.reduceLE,eDc,eDh]
   simp [hN,y8q,w5s,v41,z76,hh,h1,h136]
  |false=>
   rw [hy] at h136 hep
   have hep:errC (fnd b) ⟨n,4,[x,y],0⟩=0:=by rw [hep]; rfl
   have hyn:fnd b y=none:=by
    cases hq:fnd b y with
    |none=>rfl
    |some u=>rw [hq] at hy; cases hy
   have h136:v93 std (z31 b,(y,(t.val,())))=some (z31 (b++[⟨y,t.val,0,false⟩]),(0,())):=h136
   have hpp:z64 b ⟨n,4,[x,y],0⟩=upd (b++[⟨y,t.val,0,false⟩]) x fun _=>{ t with out:=true }:=by
    unfold z64
    rw [hep,v63]
    have e1:upd [⟨y,t.val,0,false⟩] x (fun _=>{ t with out:=true })=[⟨y,t.val,0,false⟩]:=by
     simp [upd]; intro e; exact absurd e.symm hxy
    rw [e1]
    have hc:=v3b (f:=v17 (fnd b) ⟨n,4,[x,y],0⟩) hb.2.1 ht
    have htt:v17 (fnd b) ⟨n,4,[x,y],0⟩ t={ t with out:=true }:=by simp [v17]
    rw [htt] at hc
    simp [x0,x1,hvx,hc]
   have hnd:((b++[⟨y,t.val,0,false⟩]:List Th).map (·.num)).Nodup:=by
    rw [eDu,eDg]
    refine ⟨hb.2.1,by simp,fun a ha b' hb'=>?_⟩
    simp at hb'
    subst hb'
    exact fun e=>v26 hyn (e▸ha)
   have hfx:fnd (b++[⟨y,t.val,0,false⟩]) x=some t:=by
    rw [v55 (t:=⟨y,t.val,0,false⟩) hyn,if_neg hxy]; exact ht
   have h139:=v5u (b++[⟨y,t.val,0,false⟩]) x hnd hfx
   rw [hep,hpp]
   unfold v4e
   simp only [z2d,z2e,z1a,y8q,w5s,z4b,Int.reduceLT,Int.reduceEq,Int.reduceLE,eDc,eDh]
   simp [hN,y8q,w5s,v41,z76,hh,h1,h136,h139]
 ·have hep:errC (fnd b) ⟨n,4,[x,y],0⟩=w6m (fnd b) x:=by
   unfold errC
   simp [hn2,he]
  have hpp:z64 b ⟨n,4,[x,y],0⟩=b:=by
   unfold z64
   rw [hep,if_pos he]
  rw [hep,hpp]
  unfold v4e
  simp only [z2d,z2e,z1a,y8q,w5s,z4b,Int.reduceLT,Int.reduceEq,Int.reduceLE,eDc,eDh]
  simp [hN,y8q,w5s,he]
end Go.Am
end
section
namespace Go.Am
open D12
variable {fl fl':List Int→Bool}
theorem u2p (b:List Th) (c:Cd) (hb:v4d b) (hc:z3d c=0):v4e std (z31 b,(c.n,(c.k,(z1a c.t,(c.a,())))))=some (z31 (z64 b c),(errC (fnd b) c,())):=by
 have hw:=v7k hc
 obtain ⟨_,hk,hlen,hnum,hnd,hfit⟩:=z57.1 hc
 obtain ⟨n,k,t,a⟩:=c
 simp only at hk hlen hfit hnum hnd⊢
 have nz:∀ x∈t,x≠0:=fun x hx=>by have:=hnum x hx; unfold z6x at this; omega
 rcases y35 hk with ⟨hks,hm⟩|⟨hks,hm⟩|⟨rfl,hm⟩
 ·rw [hm] at hlen
  obtain ⟨x,rfl⟩:=List.length_eq_one_iff.1 hlen
  rcases hks with rfl|rfl|rfl
  ·exact u6a b n x a (nz x (by simp))
  ·exact u5z b n x a hb (by unfold w1p at hfit; omega)
  ·have ha:a=0:=by unfold w1p at hfit; omega
   subst ha
   exact u5w b n x hb
 ·rw [hm] at hlen
  obtain ⟨x,y,rfl⟩:∃ x y,t=[x,y]:=by
   match t,hlen with
   |[x,y],_=>exact ⟨x,y,rfl⟩
  rcases hks with rfl|rfl
  ·exact u5y b n x y a hb (by unfold w1p at hfit; omega)
  ·have ha:a=0:=by unfold w1p at hfit; omega
   subst ha
   have hxy:x≠y:=by simpa using hnd
   exact u5x b n x y hb hxy (nz y (by simp))
 ·rw [hm] at hlen
  obtain ⟨x,y,z,rfl⟩:∃ x y z,t=[x,y,z]:=by
   match t,hlen with
   |[x,y,z],_=>exact ⟨x,y,z,rfl⟩
  exact u5v b n x y z a hb (by unfold w1p at hfit; omega)
theorem v9p (l:List Cd) (hl:l.length≤60) (hc:∀ c∈l,z3d c=0) (hf:Few l):z5r (v8l std) ([],([],(z0p fl l,((l.length:Int),((0:Int),())))))=some (z31 (z26 l),(z1a (v3k no l),())):=by
 have key:=y6h (b:=v8l std) l.length (fun (_:Unit) i=>(z31 (z26 (l.take i)),(z1a (v3k no (l.take i)),(z0p fl l,((l.length:Int),((i:Int),())))))) (fun _ _=>True) (fun r=>r=(z31 (z26 l),(z1a (v3k no l),())))
  (fun _ i hi _=> .inl ⟨(),by
   obtain ⟨c,hm⟩:=z1v hi
   obtain ⟨hw,h0⟩:=stp i (by omega)
   have hlt:(i:Int)<l.length:=by omega
   have hcm:=eAu hm
   obtain ⟨k1,k2⟩:=v3u (l.take i) fun d hd=>hc d (List.mem_of_mem_take hd)
   have h62:=u2p (z26 (l.take i)) c (k1.ok (by simp; omega)) (hc c hcm)
   have ht:l.take (i+1)=l.take i++[c]:=by rw [eDo,hm]; rfl
   have he:v3k no (l.take (i+1))=v3k no (l.take i)++[errC (fnd (z26 (l.take i))) c]:=by rw [ht,v78,u6g,k2]
   have hen:z1a (v3k no (l.take (i+1)))=z1a (v3k no (l.take i))++[[.int .i64 (errC (fnd (z26 (l.take i))) c)]]:=by rw [he]; simp [z1a,eI]
   have hel:(z1a (v3k no (l.take i))).length≤60:=by simp [z1a,z51]; omega
   have hbk:z26 (l.take (i+1))=z64 (z26 (l.take i)) c:=by rw [ht,v5q]
   rw [hen,hbk]
   generalize z1a (v3k no (l.take i))=E at*
   have e1:E.length+1≤1000000:=by omega
   have et:List.take E.length (List.drop 0 E)=E:=by rw [eDj,eDf]
   simp only [z1a] at h62
   simp only [z2h hm,v8l,z2d,z2e,z0p,z1a,w2c,w78,w77,w75,w76,z4b,Int.reduceLT,Int.reduceEq,Int.reduceLE,hm,hlt,h0,hw,h62,e1,et,eAg,eBh]
   simp [et,e1],trivial⟩)
  (fun _ _=>⟨_,by
   have hn:¬ (l.length:Int)<l.length:=by omega
   simp only [v8l,z2d,z2e,z2i,hn,if_false,eAk,z4b,Int.reduceLT,Int.reduceEq,Int.reduceLE,eDf],rfl⟩) () 0 (eAv _) trivial
 obtain ⟨r,h1,rfl⟩:=key
 exact h1
theorem u0m (l:List Cd) (hl:l.length≤60) (hc:∀ c∈l,z3d c=0) (hf:Few l):G61 std (z0p fl l,())=some (z31 (z26 l),(z1a (v3k no l),())):=by
 unfold G61
 have hk:=v9p (fl:=fl) l hl hc hf
 simp only [z2d,z2e,z4b,Int.reduceLT,Int.reduceEq,Int.reduceLE,z2i,hk]
theorem u0s (l:List Cd) (hf:Few l):G21 std (z0p fl l,())=some ((if z4y l=0 then z1a (v3k no l) else []),(z4y l,())):=by
 unfold G21
 by_cases hd:z4y l=0
 ·obtain ⟨h1,h2,_⟩:=z53.1 hd
  have hk:=u0m (fl:=fl) l h1 h2 hf
  simp only [z2d,z2e,z4b,Int.reduceLT,Int.reduceEq,Int.reduceLE,w3q l hf,hd,hk]
 ·simp only [z2d,z2e,z4b,Int.reduceLT,Int.reduceEq,Int.reduceLE,w3q l hf,hd]
  try simp [hd]
end Go.Am
end
section
namespace Go.Am
open D12
variable {fl fl':List Int→Bool}
def nums (b:List Th):List Int:=b.map (·.num)
def v23 (b:List Th):List Th:=(srt (nums b)).map fun x=>(fnd b x).getD default
def v8s (b:List Th):Prop:=b.length≤1000∧(nums b).Nodup∧∀ t∈b,z6x t.num
theorem v71 (b:List Th):y5e (z31 b)=nums b:=by
 unfold y5e z31 v5z.enc mb nums
 rw [List.map_map,List.map_map]; rfl
theorem u5j (b:List Th) (hb:v8s b):G63 std (z31 b,())=some (z31 b,(y5d (nums b),())):=by
 unfold G63
 have hg:z7l (z31 b)=true:=by
  unfold z7l
  rw [eAb]
  refine ⟨?_,?_⟩
  ·exact eBg (by unfold z31 v5z.enc mb; rw [eBt,eBt]; have:=hb.1; omega)
  ·rw [eAb]
   refine ⟨?_,by rw [v71]; exact z8s.2 hb.2.1⟩
   rw [eAr]
   intro e he
   unfold z31 v5z.enc mb at he
   rw [List.map_map] at he
   obtain ⟨t,ht,rfl⟩:=eBb.1 he
   have hn:=hb.2.2 t ht
   unfold z6x at hn
   show (Lit.int .i64 t.num).wf=true
   simp only [Lit.wf,IntKind.min,IntKind.max,IntKind.signed,IntKind.bits]
   simp
   omega
 rw [hg,v71]
 rfl
theorem u2i (b:List Th) (hb:v8s b):v1y std (y5d (nums b),())=some (z1a (srt (nums b)),()):=by
 unfold v1y
 have h1:y8b (y5d (nums b))=some (nums b):=x5s (nums b)
 have h2:z7s (nums b)=true:=z8s.2 hb.2.1
 have h3:Nat.ble (nums b).length 1000000=true:=eBg (by unfold nums; rw [eBt]; have:=hb.1; omega)
 simp only [h1,h2,h3,eDq,cond_true]
 rfl
theorem v77 {b:List Th} {x:Int} (h:x∈nums b):∃ t,fnd b x=some t:=by
 cases hq:fnd b x with
 |none=>exact absurd h (v26 hq)
 |some t=>exact ⟨t,rfl⟩
theorem v9z (b:List Th) (hb:v8s b):z5r (v8q std) (z31 b,([],(z1a (srt (nums b)),(((srt (nums b)).length:Int),((0:Int),())))))=some (z5s (v23 b),()):=by
 have hsl:(srt (nums b)).length≤1000:=by rw [(srt_perm _).length_eq]; unfold nums; rw [eBt]; exact hb.1
 have hmem:∀ x∈srt (nums b),∃ t,fnd b x=some t:=fun x hx=>v77 ((srt_perm _).mem_iff.1 hx)
 unfold v23
 generalize srt (nums b)=S at*
 have key:=y6h (b:=v8q std) S.length (fun (_:Unit) i=>(z31 b,(z5s ((S.take i).map fun x=>(fnd b x).getD default),(z1a S,((S.length:Int),((i:Int),())))))) (fun _ _=>True) (fun r=>r=(z5s (S.map fun x=>(fnd b x).getD default),()))
  (fun _ i hi _=> .inl ⟨(),by
   obtain ⟨x,hm⟩:=z1v hi
   obtain ⟨hw,h0⟩:=stp i (by omega)
   have hlt:(i:Int)<S.length:=by omega
   obtain ⟨t,hx⟩:=hmem x (eAu hm)
   have ht:S.take (i+1)=S.take i++[x]:=by rw [eDo,hm]; rfl
   have hen:z5s ((S.take (i+1)).map fun x=>(fnd b x).getD default)=z5s ((S.take i).map fun x=>(fnd b x).getD default)++[eTh t]:=by rw [ht]; simp [z5s,hx]
   have hel:(z5s ((S.take i).map fun x=>(fnd b x).getD default)).length≤1000:=by simp [z5s]; omega
   have hh:(fnd b x).isSome=true:=by rw [hx]; rfl
   have q0:=B_0 hx
   have q1:=B_1 hx
   have q2:=B_2 hx
   have q3:=B_3 hx
   rw [hen]
   generalize z5s ((S.take i).map fun x=>(fnd b x).getD default)=E at*
   have e1:E.length+1≤1000000:=by omega
   have et:List.take E.length (List.drop 0 E)=E:=by rw [eDj,eDf]
   simp only [v8q,z2d,z2e,z1a,y8q,w5s,z4b,Int.reduceLT,Int.reduceEq,Int.reduceLE,hm,hlt,h0,hw,v41,z76,hh,q0,q1,q2,q3,e1,et,eAg,eBh]
   simp [et,e1,eTh]
   simpa using hw,trivial⟩)
  (fun _ _=>⟨_,by
   have hn:¬ (S.length:Int)<S.length:=by omega
   simp only [v8q,z2d,z2e,hn,if_false,eAk,z4b,Int.reduceLT,Int.reduceEq,Int.reduceLE,eDf],rfl⟩) () 0 (eAv _) trivial
 obtain ⟨r,h1,rfl⟩:=key
 exact h1
theorem v7s {b:List Th} {c:Cd} (hc:z3d c=0) (hb:∀ t∈b,z6x t.num):∀ t∈z64 b c,z6x t.num:=by
 have hw:=v7k hc
 obtain ⟨_,hk,hlen,hnum,_,_⟩:=z57.1 hc
 have hu:∀ t∈upd b (x0 c) (v17 (fnd b) c),z6x t.num:=by
  intro t ht
  unfold upd at ht
  obtain ⟨u,hu,rfl⟩:=eBb.1 ht
  split
  ·rw [v27]; exact hb u hu
  ·exact hb u hu
 unfold z64
 split
 ·exact hb
 ·split
  ·intro t ht
   rcases eBj.1 ht with ht|ht
   ·exact hb t ht
   ·simp at ht; subst ht; exact hnum _ (v6e hw)
  ·split
   ·rename_i h4
    intro t ht
    rcases eBj.1 ht with ht|ht
    ·exact hu t ht
    ·simp at ht; subst ht; exact hnum _ (v5e hw (by unfold z3a; simp [h4]))
   ·exact hu
theorem v3h (l:List Cd) (hl:l.length≤60) (h:∀ c∈l,z3d c=0):v8s (z26 l):=by
 obtain ⟨h1,_⟩:=v3u l h
 refine ⟨by have:=h1.1; omega,h1.2.1,?_⟩
 have key:∀ (l:List Cd) (b:List Th),(∀ c∈l,z3d c=0)→(∀ t∈b,z6x t.num)→∀ t∈l.foldl z64 b,z6x t.num:=by
  intro l
  induction l with
  |nil=>intro b _ hb; exact hb
  |cons c l ih=>intro b hc hb; exact ih _ (fun d hd=>hc d (eCm _ hd)) (v7s (hc c (eBq ..)) hb)
 exact key l [] h (by simp)
theorem u0r (l:List Cd) (hf:Few l):G23 std (z0p fl l,())=some ((if z4y l=0 then z5s (v23 (z26 l)) else []),(z4y l,())):=by
 unfold G23 G64
 by_cases hd:z4y l=0
 ·obtain ⟨h1,h2,_⟩:=z53.1 hd
  have hk:=u0m (fl:=fl) l h1 h2 hf
  have hg:=v3h l h1 h2
  have h63:=u5j _ hg
  have h57:=u2i _ hg
  have h23:=v9z _ hg
  have hlen:(z1a (srt (nums (z26 l)))).length=(srt (nums (z26 l))).length:=by simp [z1a]
  simp only [z2d,z2e,z4b,Int.reduceLT,Int.reduceEq,Int.reduceLE,w3q l hf,hd,hk,h63,h57,hlen,h23]
 ·simp only [z2d,z2e,z4b,Int.reduceLT,Int.reduceEq,Int.reduceLE,w3q l hf,hd]
  try simp [hd]
end Go.Am
end
section
namespace Go.Am
open D12
variable {fl fl':List Int→Bool}
theorem v5c {l:List Cd} {c:Cd} (hn:(l.map (·.n)).Nodup) {i:Nat} (h:l[i]?=some c):atI l c.n=(i:Int):=by
 unfold atI atO
 cases hq:(List.range l.length).find? (fun i=>decide ((l.getD i default).n=c.n)) with
 |none=>
  rw [List.find?_eq_none] at hq
  have hi:i<l.length:=(eAd.1 h).1
  have:=hq i (eBo.2 hi)
  rw [z2h h] at this
  simp at this
 |some j=>
  have h1:=List.find?_some hq
  have h2:=eBo.1 (eDb hq)
  obtain ⟨m,hm⟩:=z1v h2
  rw [z2h hm] at h1
  simp only [decide_eq_true_eq] at h1
  have hmc:m=c:=z24 hn m (eAu hm) c (eAu h) h1
  subst hmc
  show (j:Int)=i
  rw [←v3r hn h, ←v3r hn hm]
theorem v9c {l:List Cd}:u2s l=true↔z4y l=0:=by
 unfold u2s
 simp only [eAb,eBy,decide_eq_true_eq]
 constructor
 ·exact fun h=>h.2
 ·intro h
  refine ⟨?_,h⟩
  obtain ⟨h1,_,_,_,h5⟩:=z21 h
  unfold x8g
  simp only [Bool.or_eq_false_iff,decide_eq_false_iff_not,List.any_eq_false,decide_eq_true_eq]
  exact ⟨by omega,fun c hc=>by have:=(h5 c hc).2.1; omega⟩
theorem z59 {l:List Cd} (h:z4y l=0):Few l:=fun c hc=>by have:=((z21 h).2.2.2.2 c hc).2.1; omega
theorem v64 {b:List Th} (hb:v8s b):(v23 b).length≤1000:=by
 unfold v23; rw [eBt,(srt_perm _).length_eq]; unfold nums; rw [eBt]; exact hb.1
end Go.Am
end
section
namespace Go.Am
open D12
variable {fl fl':List Int→Bool}
theorem u2n (a b:List Int) (ha:a.length≤1000000):u2v std (z1a a,(z1a b,()))=some (decide (a=b),()):=by
 by_cases hl:a.length=b.length
 ·have key:=z9b (b:=v4z std) a.length (fun i=>(z1a a,(z1a b,((a.length:Int),((i:Int),()))))) (fun i=>!decide (a.getD i default=b.getD i default)) (.inl (false,())) (.inr ()) (fun i hi=>by
   obtain ⟨m,hm⟩:=z1v hi
   obtain ⟨m',hm'⟩:=z1v (l:=b) (i:=i) (by omega)
   obtain ⟨hw,h0⟩:=stp i (by omega)
   have hlt:(i:Int)<a.length:=by omega
   have r1:=u3f hm
   have r2:(b.map eI)[i]?=some (eI m'):=by rw [eAg,hm']; rfl
   rw [z2h hm,z2h hm']
   by_cases e:m=m'
   ·subst e
    simp only [v4z,z2d,z2e,z1a,y8q,w5s,z4b,Int.reduceLT,Int.reduceEq,Int.reduceLE,r1,r2,hlt,h0,hw,eBt, ←hl,eAi,if_false]
   ·simp only [v4z,z2d,z2e,z1a,y8q,w5s,z4b,Int.reduceLT,Int.reduceEq,Int.reduceLE,r1,r2,hlt,h0,hw,e,eBt, ←hl]) (by
   have hno:¬ (a.length:Int)<a.length:=by omega
   simp only [v4z,z2d,z2e,hno,if_false])
  have key:z5r (v4z std) (z1a a,(z1a b,((a.length:Int),((0:Int),()))))=_:=key
  rw [v6l default hl] at key
  unfold u2v
  have e1:(z1a a).length=a.length:=z00 a
  have e2:(z1a b).length=b.length:=z00 b
  have e3:(a.length:Int)=(b.length:Int):=by omega
  rw [e3] at key
  by_cases e:a=b
  ·simp only [e,decide_true,Bool.not_true,eAi,if_false] at key
   subst e
   simp only [z2d,z2e,z4b,Int.reduceLT,Int.reduceEq,Int.reduceLE,e1,e2,e3,key]
  ·simp only [e,decide_false,eCq,if_true] at key
   simp only [z2d,z2e,z4b,Int.reduceLT,Int.reduceEq,Int.reduceLE,e1,e2,e3,key,e]
 ·unfold u2v
  have e1:(z1a a).length=a.length:=z00 a
  have e2:(z1a b).length=b.length:=z00 b
  have e3:¬ (a.length:Int)=(b.length:Int):=by omega
  have e4:a≠b:=fun h=>hl (by rw [h])
  simp only [z2d,z2e,z4b,Int.reduceLT,Int.reduceEq,Int.reduceLE,e1,e2,e3,e4,ne_eq]
theorem u0j (c d:Cd) (hc:c.t.length≤1000000):G80 std (c.n,(c.k,(z1a c.t,(c.a,(d.n,(d.k,(z1a d.t,(d.a,()))))))))=some (decide (c=d),()):=by
 have h118:=u2n c.t d.t hc
 unfold G80
 by_cases e:c=d
 ·subst e
  rw [decide_eq_true rfl] at h118
  simp only [z2d,z2e,z4b,Int.reduceLT,Int.reduceEq,Int.reduceLE,h118]
 ·have hx:¬ (c.n=d.n∧c.k=d.k∧c.t=d.t∧c.a=d.a):=by
   rintro ⟨h1,h2,h3,h4⟩; exact e (by cases c; cases d; simp_all)
  by_cases e1:c.n=d.n
  ·by_cases e2:c.k=d.k
   ·by_cases e3:c.a=d.a
    ·have e4:¬ c.t=d.t:=fun h=>hx ⟨e1,e2,h,e3⟩
     rw [decide_eq_false e4] at h118
     simp only [z2d,z2e,z4b,Int.reduceLT,Int.reduceEq,Int.reduceLE,h118,e,e1,e2,e3]
    ·simp only [z2d,z2e,z4b,Int.reduceLT,Int.reduceEq,Int.reduceLE,e,e1,e2,e3]
   ·simp only [z2d,z2e,z4b,Int.reduceLT,Int.reduceEq,Int.reduceLE,e,e1,e2]
  ·simp only [z2d,z2e,z4b,Int.reduceLT,Int.reduceEq,Int.reduceLE,e,e1]
theorem u5b (a b:List Cd) (ha:a.length≤1000000) (hr:Few a):G81 std (z0p fl a,(z0p fl' b,()))=some (decide (a=b),()):=by
 by_cases hl:a.length=b.length
 ·have key:=z9b (b:=v7b std) a.length (fun i=>(z0p fl' b,(z0p fl a,((a.length:Int),((i:Int),()))))) (fun i=>!decide (a.getD i default=b.getD i default)) (.inl (false,())) (.inr ()) (fun i hi=>by
   obtain ⟨m,hm⟩:=z1v hi
   obtain ⟨m',hm'⟩:=z1v (l:=b) (i:=i) (by omega)
   obtain ⟨hw,h0⟩:=stp i (by omega)
   have hlt:(i:Int)<a.length:=by omega
   have r1:=v43 (fl:=fl) hm
   have r2:(b.map (eC fl'))[i]?=some (eC fl' m'):=by rw [eAg,hm']; rfl
   have h80:=u0j m m' (hr m (eAu hm))
   simp only [z1a] at h80
   rw [z2h hm,z2h hm']
   by_cases e:m=m'
   ·subst e
    rw [decide_eq_true rfl] at h80
    simp only [v7b,z2d,z2e,z0p,z1a,z5s,y4y,z0p,z1a,z4b,Int.reduceLT,Int.reduceEq,Int.reduceLE,r1,r2,hlt,h0,hw,h80,eBt,eAi,if_false]
   ·rw [decide_eq_false e] at h80
    simp only [v7b,z2d,z2e,z0p,z1a,z5s,y4y,z0p,z1a,z4b,Int.reduceLT,Int.reduceEq,Int.reduceLE,r1,r2,hlt,h0,hw,h80,e,eBt]) (by
   have hno:¬ (a.length:Int)<a.length:=by omega
   simp only [v7b,z2d,z2e,hno,if_false])
  have key:z5r (v7b std) (z0p fl' b,(z0p fl a,((a.length:Int),((0:Int),()))))=_:=key
  rw [v6l default hl] at key
  unfold G81
  have e1:(z0p fl a).length=a.length:=z2i a
  have e2:(z0p fl' b).length=b.length:=z2i b
  have e3:(a.length:Int)=(b.length:Int):=by omega
  rw [e3] at key
  by_cases e:a=b
  ·simp only [e,decide_true,Bool.not_true,eAi,if_false] at key
   subst e
   simp only [z2d,z2e,z4b,Int.reduceLT,Int.reduceEq,Int.reduceLE,e1,e2,e3,key]
  ·simp only [e,decide_false,eCq,if_true] at key
   simp only [z2d,z2e,z4b,Int.reduceLT,Int.reduceEq,Int.reduceLE,e1,e2,e3,key,e]
 ·unfold G81
  have e1:(z0p fl a).length=a.length:=z2i a
  have e2:(z0p fl' b).length=b.length:=z2i b
  have e3:¬ (a.length:Int)=(b.length:Int):=by omega
  have e4:a≠b:=fun h=>hl (by rw [h])
  simp only [z2d,z2e,z4b,Int.reduceLT,Int.reduceEq,Int.reduceLE,e1,e2,e3,e4,ne_eq]
def EM (fl:List Int→Bool):v5z Int Cd:=⟨fun k=> .int .i64 k,fun c=> .agg (eC fl c),[.i],false,true,[.int .i64, .int .i64, .list 1, .int .i64]⟩
theorem v5v:(EM fl).Ok where
 agg:=fun _=>rfl
 kinds:=fun _=>rfl
 eq:=fun a b=>by
  show (bif IntKind.i64==IntKind.i64 then (some (z3o .eql a b&&true)) else none)=_
  rw [eCc]; rfl
 vagg:=fun _=>rfl
 vok:=fun _=>rfl
def v5k (l:List Cd):List (Int×Cd):=l.map fun c=>(c.n,c)
def v35 (fl:List Int→Bool) (m:List (Int×Cd)):List (D×D):=(EM fl).enc m
def fdC (l:List Cd) (x:Int):Option Cd:=l.find? fun c=>decide (c.n=x)
theorem v6x (x:Int):∀ l:List Cd,z22 (v5k l) x=fdC l x
 |[]=>rfl
 |c::l=>by
  have ih:=v6x x l
  unfold v5k fdC at ih⊢
  simp only [eDc,z22,List.find?_cons]
  by_cases h:x=c.n
  ·simp [h]
  ·have:decide (c.n=x)=false:=by simpa using fun e=>h e.symm
   simp [h,this,ih]
theorem v5a {l:List Cd} (hn:(l.map (·.n)).Nodup) {c:Cd} (h:c∈l):fdC l c.n=some c:=by
 unfold fdC
 cases hq:l.find? fun d=>decide (d.n=c.n) with
 |none=>
  rw [List.find?_eq_none] at hq
  have:=hq c h
  simp at this
 |some d=>
  have h1:=eDb hq
  have h2:=List.find?_some hq
  simp only [decide_eq_true_eq] at h2
  rw [z24 hn d h1 c h h2]
theorem v56 {l:List Cd} {x:Int} {c:Cd} (h:fdC l x=some c):c∈l∧c.n=x:=by
 have h1:=eDb h
 have h2:=List.find?_some h
 simp only [decide_eq_true_eq] at h2
 exact ⟨h1,h2⟩
section
variable (m:List (Int×Cd)) (x:Int)
theorem u6d:std.mOk (v35 fl m) [SK.i] false (.int .i64 x) true [.int .i64, .int .i64, .list 1, .int .i64]=true:=v53 v5v m x
theorem v92:std.mhas (v35 fl m) [SK.i] false (.int .i64 x)=(z22 m x).isSome:=v45 v5v m x
variable {m x}
theorem M_0 {c:Cd} (h:z22 m x=some c):std.mI (v35 fl m) [SK.i] false (.int .i64 x) 0=c.n:=v31 v5v m x 0 h
theorem M_1 {c:Cd} (h:z22 m x=some c):std.mI (v35 fl m) [SK.i] false (.int .i64 x) 1=c.k:=v31 v5v m x 1 h
theorem M_2 {c:Cd} (h:z22 m x=some c):std.mL (v35 fl m) [SK.i] false (.int .i64 x) 2=z1a c.t:=by
 show dL (x2i _ _ _ _ _)=_
 rw [show x2i (v35 fl m) [SK.i] false (.int .i64 x) 2=_ from v30 v5v m x 2 h]; rfl
theorem M_3 {c:Cd} (h:z22 m x=some c):std.mI (v35 fl m) [SK.i] false (.int .i64 x) 3=c.a:=v31 v5v m x 3 h
theorem u9f (h:z22 m x=none) (c:Cd):std.madd (v35 fl m) (.int .i64 x) (.agg [.int .i64 c.n, .int .i64 c.k, .list (fl c.t) 1 (z1a c.t), .int .i64 c.a])=v35 fl (v4b m x c):=v47 v5v m x h c
theorem u9e {c:Cd} (h:z22 m x=some c):std.mdel (v35 fl m) (std.mpos (v35 fl m) [SK.i] false (.int .i64 x))=v35 fl (v8r m x):=v83 v5v m x h
end
theorem v6k {l:List Cd} {i:Nat} {c:Cd} (hn:(l.map (·.n)).Nodup) (h:l[i]?=some c):z22 (v5k (l.take i)) c.n=none∧v4b (v5k (l.take i)) c.n c=v5k (l.take (i+1)):=by
 have h1:z22 (v5k (l.take i)) c.n=none:=by
  rw [v3i]
  intro hm
  unfold v5k at hm
  rw [List.map_map] at hm
  obtain ⟨d,hd,he⟩:=eBb.1 hm
  have he:d.n=c.n:=he
  have hdl:=List.mem_of_mem_take hd
  have:=z24 hn d hdl c (eAu h) he
  subst this
  obtain ⟨j,hj,hje⟩:=eDi.1 hd
  rw [eBv] at hj
  rw [List.getElem_take] at hje
  have:=v3r hn (i:=j) (by rw [eAa (by omega),hje])
  have:=v3r hn h
  omega
 refine ⟨h1,?_⟩
 unfold v4b
 rw [h1,eDo,h]
 simp [v5k]
theorem u5c (l:List Cd) (hl:l.length≤60) (hn:(l.map (·.n)).Nodup):G79 std (z0p fl l,())=some (v35 fl (v5k l),()):=by
 have key:=y6h (b:=v8f std) l.length (fun (_:Unit) i=>(v35 fl (v5k (l.take i)),(z0p fl l,((l.length:Int),((i:Int),()))))) (fun _ _=>True) (fun r=>r=(v35 fl (v5k l),()))
  (fun _ i hi _=> .inl ⟨(),by
   obtain ⟨c,hc⟩:=z1v hi
   obtain ⟨hw,h0⟩:=stp i (by omega)
   have hlt:(i:Int)<l.length:=by omega
   obtain ⟨h1,h2⟩:=v6k hn hc
   have hrow:=v43 (fl:=fl) hc
   have hh:(z22 (v5k (l.take i)) c.n).isSome=false:=by rw [h1]; rfl
   have ha:=u9f (fl:=fl) h1 c
   rw [h2] at ha
   have hF:std.rdF (l.map (eC fl)) i 2 1=fl c.t:=u6b ‹_›
   simp only [z1a] at ha
   simp only [v8f,z2d,z2e,z0p,z1a,z5s,y4y,z0p,z1a,z4b,Int.reduceLT,Int.reduceEq,Int.reduceLE,hrow,hlt,h0,hw,u6d,v92,hh,hF,ha],trivial⟩)
  (fun _ _=>⟨(v35 fl (v5k l),()),by
   have hno:¬ (l.length:Int)<l.length:=by omega
   rw [eDf]
   simp only [v8f,z2d,z2e,hno,if_false],rfl⟩) () 0 (eAv _) trivial
 obtain ⟨r,h1,rfl⟩:=key
 have h1:z5r (v8f std) ([],(z0p fl l,((l.length:Int),((0:Int),()))))=_:=h1
 unfold G79
 have hle:(z0p fl l).length=l.length:=z2i l
 simp only [z2d,z2e,hle,h1]
theorem v3l {a b:List Cd}:v4g a b=0↔z4y a=0∧z4y b=0:=by
 unfold v4g; split
 ·rename_i h; exact ⟨fun e=>absurd e h,fun e=>absurd e.1 h⟩
 ·rename_i h; simp only [ne_eq,Decidable.not_not] at h; simp [h]
def u4z (a b:List Cd) (i:Nat) (M:List (Int×Cd)):Prop:=(M.map (·.1)).Nodup∧∀ x,z22 M x=if x∈(a.take i).map (·.n) then none else fdC b x
theorem u3i {M:List (Int×Cd)} (h:M≠[]):∃ x c,z22 M x=some c:=by
 match M,h with
 |(x,c)::M,_=>exact ⟨x,c,by simp [z22]⟩
theorem v9v (A B:List (List D)) (a b:List Cd) (ha:a.length≤60) (han:(a.map (·.n)).Nodup) (hbn:(b.map (·.n)).Nodup) (hbt:∀ c∈b,c.t.length≤1000000):
  ∃ r,z5r (v59 std) (v35 fl' (v5k b),(A,(B,(z0p fl a,((a.length:Int),((0:Int),()))))))=some r∧
   ((r= .inl (15,())∧¬ ∀ c∈a,c∈b)∨∃ M,r= .inr (v35 fl' M,(A,(B,())))∧(∀ c∈a,c∈b)∧u4z a b a.length M):=by
 refine y6h (b:=v59 std) a.length (fun (M:List (Int×Cd)) i=>(v35 fl' M,(A,(B,(z0p fl a,((a.length:Int),((i:Int),()))))))) (fun M i=>u4z a b i M∧∀ c∈a.take i,c∈b) _
  (fun M i hi hI=>?_) (fun M hI=>?_) (v5k b) 0 (eAv _) ⟨⟨by unfold v5k; rw [List.map_map]; exact hbn,fun x=>by simp [v6x]⟩,fun c hc=>by simp at hc⟩
 ·obtain ⟨⟨hMn,hM⟩,hin⟩:=hI
  obtain ⟨c,hc⟩:=z1v hi
  obtain ⟨hw,h0⟩:=stp i (by omega)
  have hlt:(i:Int)<a.length:=by omega
  have hrow:=v43 (fl:=fl) hc
  have hni:c.n∉(a.take i).map (·.n):=by
   intro hm
   have:=v6k han hc
   rw [v3i] at this
   apply this.1
   unfold v5k
   rw [List.map_map]
   exact hm
  have hv:=hM c.n
  rw [if_neg hni] at hv
  cases hq:fdC b c.n with
  |none=>
   rw [hq] at hv
   have hh:(z22 M c.n).isSome=false:=by rw [hv]; rfl
   refine .inr ⟨.inl (15,()),by simp only [v59,z2d,z2e,z0p,z1a,z5s,y4y,z0p,z1a,z4b,Int.reduceLT,Int.reduceEq,Int.reduceLE,hrow,hlt,h0,hw,u6d,v92,hh], .inl ⟨rfl,fun hall=>?_⟩⟩
   rw [v5a hbn (hall c (eAu hc))] at hq
   cases hq
  |some x=>
   rw [hq] at hv
   have hh:(z22 M c.n).isSome=true:=by rw [hv]; rfl
   have m0:=M_0 (fl:=fl') hv
   have m1:=M_1 (fl:=fl') hv
   have m2:=M_2 (fl:=fl') hv
   have m3:=M_3 (fl:=fl') hv
   have md:=u9e (fl:=fl') hv
   have h80:=u0j x c (hbt x (v56 hq).1)
   simp only [z1a] at m2 h80
   by_cases e:x=c
   ·subst e
    rw [decide_eq_true rfl] at h80
    refine .inl ⟨v8r M x.n,by simp only [v59,z2d,z2e,z0p,z1a,z5s,y4y,z0p,z1a,z4b,Int.reduceLT,Int.reduceEq,Int.reduceLE,hrow,hlt,h0,hw,u6d,v92,hh,m0,m1,m2,m3,h80,md,eAi,if_false],⟨hMn.sublist (v61 _ _),fun y=>?_⟩,fun d hd=>?_⟩
    ·rw [v6y y hMn,hM y,eDo,hc]
     by_cases hy:y=x.n
     ·subst hy; simp
     ·simp [hy]
    ·rw [eDo,hc] at hd
     rcases eBj.1 hd with hd|hd
     ·exact hin d hd
     ·have:d=x:=by simpa using hd
      subst this
      exact (v56 hq).1
   ·rw [decide_eq_false e] at h80
    refine .inr ⟨.inl (15,()),by simp only [v59,z2d,z2e,z0p,z1a,z5s,y4y,z0p,z1a,z4b,Int.reduceLT,Int.reduceEq,Int.reduceLE,hrow,hlt,h0,hw,u6d,v92,hh,m0,m1,m2,m3,h80,e], .inl ⟨rfl,fun hall=>?_⟩⟩
    rw [v5a hbn (hall c (eAu hc))] at hq
    exact e (Option.some.inj hq).symm
 ·have hno:¬ (a.length:Int)<a.length:=by omega
  refine ⟨.inr (v35 fl' M,(A,(B,()))),by simp only [v59,z2d,z2e,hno,if_false,z4b,Int.reduceLT,Int.reduceEq,Int.reduceLE], .inr ⟨M,rfl,?_,hI.1⟩⟩
  have:=hI.2
  rwa [eDf] at this
def v4n (a b:List Cd):Int:=if v4g a b≠0 then v4g a b else if ¬ a.Perm b then 15 else if z20 a=z20 b then 0 else 24
theorem u0o (a b:List Cd) (ha:Few a) (hb:Few b):G35 std (z0p fl a,(z0p fl' b,()))=some (v4n a b,()):=by
 have h78:=u5d (fl:=fl) (fl':=fl') a b ha hb
 unfold G35 v4n
 by_cases h:v4g a b=0
 ·obtain ⟨da,db⟩:=v3l.1 h
  obtain ⟨a1,a2,a3,a4,a5⟩:=z21 da
  obtain ⟨b1,b2,b3,b4,b5⟩:=z21 db
  have h79:=u5c (fl:=fl') b b1 b2
  have hla:(z0p fl a).length=a.length:=z2i a
  obtain ⟨r,hr,hQ⟩:=v9v (fl:=fl) (fl':=fl') (z0p fl a) (z0p fl' b) a b a1 a2 b2 hb
  rcases hQ with ⟨rfl,hne⟩|⟨M,rfl,hall,hM⟩
  ·have hp:¬ a.Perm b:=fun hp=>hne fun c hc=>hp.mem_iff.1 hc
   simp only [z2d,z2e,z4b,Int.reduceLT,Int.reduceEq,Int.reduceLE,h78,h,h79,hla,hr,hp,ne_eq]
  ·have hml:std.mlen (v35 fl' M)=M.length:=by show (v35 fl' M).length=_; simp [v35,v5z.enc]
   have hMx:=hM.2
   rw [eDf] at hMx
   by_cases hme:M=[]
   ·subst hme
    have hp:a.Perm b:=by
     refine z80 a3 b3 fun c=>⟨hall c,fun hc=>?_⟩
     have:=hMx c.n
     rw [v5a b2 hc] at this
     split at this
     ·rename_i hm
      obtain ⟨d,hd,he⟩:=eBb.1 hm
      rw [←z24 b2 d (hall d hd) c hc he]
      exact hd
     ·cases this
    obtain ⟨IX,ss,g66,g67⟩:=v32 (fl:=fl) da
    obtain ⟨IX',ss',g66',g67'⟩:=v32 (fl:=fl') db
    have hla2:=(z28 a3).1.length_eq
    have h81:=u5b (fl:=fun _=>false) (fl':=fun _=>false) (z20 a) (z20 b) (by rw [←hla2]; omega) (fun c hc=>by have:=(a5 c ((z28 a3).1.mem_iff.2 hc)).2.1; omega)
    have tS:∀ E:List (List D),E.take E.length=E:=fun E=>eDf
    have hm0:¬ (0:Int)<((0:Nat):Int):=by omega
    simp only [List.length_nil] at hml
    by_cases e:z20 a=z20 b
    ·rw [decide_eq_true e] at h81
     rw [←e] at g67' h81
     have hs:(if z20 a=z20 b then (0:Int) else 24)=0:=if_pos e
     simp only [z2d,z2e,z4b,Int.reduceLT,Int.reduceEq,Int.reduceLE,h78,h,h79,hla,hr,hp,ne_eq,hml,hm0,g66,g67,g66',g67',h81,tS,eAp,eAk,eDj,hs,eDq,eAi,if_false]
    ·rw [decide_eq_false e] at h81
     simp only [z2d,z2e,z4b,Int.reduceLT,Int.reduceEq,Int.reduceLE,h78,h,h79,hla,hr,hp,ne_eq,hml,hm0,g66,g67,g66',g67',h81,tS,eAp,eAk,eDj,e,eDq]
   ·have hp:¬ a.Perm b:=by
     intro hp
     obtain ⟨x,c,hc⟩:=u3i hme
     rw [hMx x] at hc
     split at hc
     ·cases hc
     ·rename_i hm
      obtain ⟨h1,h2⟩:=v56 hc
      exact hm (eBb.2 ⟨c,hp.mem_iff.2 h1,h2⟩)
    have hm1:(0:Int)<(M.length:Int):=by
     have:0<M.length:=List.length_pos_iff.2 hme
     omega
    simp only [z2d,z2e,z4b,Int.reduceLT,Int.reduceEq,Int.reduceLE,h78,h,h79,hla,hr,hp,ne_eq,hml,hm1]
 ·simp only [z2d,z2e,z4b,Int.reduceLT,Int.reduceEq,Int.reduceLE,h78,h,ne_eq]
end Go.Am
end
section
namespace Go.Am
open D12
variable {fl fl':List Int→Bool}
def Chn (B:Cd→Cd→Bool):List Cd→Prop
 |[]=>True
 |[_]=>True
 |x::y::l=>B x y=true∧Chn B (y::l)
theorem Chn.left {B:Cd→Cd→Bool}:∀ {p q:List Cd},Chn B (p++q)→Chn B p
 |[],_,_=>trivial
 |[_],_,_=>trivial
 |x::y::p,q,h=>⟨h.1,Chn.left (p:=y::p) (q:=q) h.2⟩
end Go.Am
end
section
namespace Go.Am
open D12
variable {fl fl':List Int→Bool}
theorem u4x {l:List Cd} {x:Int} {i:Nat} (h:atO l x=some i):i<l.length:=eBo.1 (eDb h)
end Go.Am
end
section
namespace Go.Am
open D12
variable {fl fl':List Int→Bool}
theorem u8q {b:List Cd} (hb:(b.map (·.n)).Nodup) (c:Cd):(∃ k d,atO b c.n=some k∧b[k]?=some d∧c=d)↔c∈b:=by
 constructor
 ·rintro ⟨k,d,_,h,rfl⟩; exact eAu h
 ·intro h
  obtain ⟨k,hk,he⟩:=eDi.1 h
  have hk':b[k]?=some c:=by rw [eAa hk,he]
  have h1:=v5c hb hk'
  unfold atI at h1
  cases hf:atO b c.n with
  |none=>rw [hf] at h1; simp only at h1; omega
  |some j=>
   rw [hf] at h1
   simp only at h1
   have:j=k:=by omega
   subst this
   exact ⟨j,c,rfl,hk',rfl⟩
theorem v9u (a b:List Cd) (ha:Few a) (hla:a.length≤60) (hlb:b.length≤60) (hb:(b.map (·.n)).Nodup):
  z5r (v5t std) (z0p fl a,(z0p fl' b,((0:Int),())))=some (if (a.any fun c=>!decide (c∈b))=true then .inl (15,()) else .inr (z0p fl a,(z0p fl' b,()))):=by
 have key:=z9b (b:=v5t std) a.length (fun i=>(z0p fl a,(z0p fl' b,((i:Int),())))) (fun i=>!decide (a.getD i default∈b)) (.inl ((15:Int),())) (.inr (z0p fl a,(z0p fl' b,()))) (fun i hi=>by
  obtain ⟨c,hc⟩:=z1v hi
  obtain ⟨hw,h0⟩:=stp i (by omega)
  have hlt:(i:Int)<a.length:=by omega
  have hrow:=v43 (fl:=fl) hc
  have hle:(a.map (eC fl)).length=a.length:=by simp
  have g43:=v62 (fl:=fl') b c.n (by omega)
  unfold atI at g43
  rw [z2h hc]
  have hf:=u8q hb c
  cases hq:atO b c.n with
  |none=>
   rw [hq] at g43 hf
   have hm:¬ c∈b:=fun h=>by obtain ⟨k,d,h1,_⟩:=hf.2 h; cases h1
   have n1:(-1:Int)<0:=by omega
   simp only [z0p] at g43
   simp only [v5t,z2d,z2e,z0p,z1a,z5s,y4y,z0p,z1a,z4b,Int.reduceLT,Int.reduceEq,Int.reduceLE,hc,hrow,hle,hlt,h0,hw,g43,n1,hm]
  |some k=>
   rw [hq] at g43 hf
   have k0:¬ (k:Int)<0:=by omega
   have k1:(0:Int)≤(k:Int):=by omega
   obtain ⟨d,hd⟩:=z1v (u4x hq)
   have r2:=v43 (fl:=fl') hd
   have h77:=u0k c d (ha c (eAu hc))
   simp only [z0p,z1a] at g43 h77
   by_cases e:c=d
   ·have hm:c∈b:=e▸eAu hd
    rw [decide_eq_true e] at h77
    simp only [v5t,z2d,z2e,z0p,z1a,z5s,y4y,z0p,z1a,z4b,Int.reduceLT,Int.reduceEq,Int.reduceLE,hc,hrow,hle,hlt,h0,hw,g43,k0,k1,hd,r2,h77,hm,eAi,if_false]
   ·have hm:¬ c∈b:=fun h=>by
     obtain ⟨k',d',h1,h2,h3⟩:=hf.2 h
     cases h1
     rw [hd] at h2; cases h2
     exact e h3
    rw [decide_eq_false e] at h77
    simp only [v5t,z2d,z2e,z0p,z1a,z5s,y4y,z0p,z1a,z4b,Int.reduceLT,Int.reduceEq,Int.reduceLE,hc,hrow,hle,hlt,h0,hw,g43,k0,k1,hd,r2,h77,hm,eAi,if_false]) (by
  have hno:¬ (a.length:Int)<a.length:=by omega
  have hle:(z0p fl a).length=a.length:=z2i a
  simp only [v5t,z2d,z2e,hle,hno,if_false])
 have key:z5r (v5t std) (z0p fl a,(z0p fl' b,((0:Int),())))=_:=key
 rw [x21 a default fun c=>!decide (c∈b)] at key
 exact key
def v4f (b:List Cd) (x y:Cd):Bool:=tch x y&&decide (atI b x.n>atI b y.n)
theorem v9s (a b:List Cd) (ha:Few a) (hla:a.length≤60) (hlb:b.length≤60) (i:Nat) {c:Cd} (hc:a[i]?=some c):
  z5r (v58 std) (z0p fl a,(z0p fl' b,((i:Int),((0:Int),()))))=some (if ((List.range i).any fun k=>v4f b (a.getD k default) c)=true then .inl (24,()) else .inr (z0p fl a,(z0p fl' b,((i:Int),())))):=by
 have hil:i<a.length:=(eAd.1 hc).1
 have key:=z9b (b:=v58 std) i (fun k=>(z0p fl a,(z0p fl' b,((i:Int),((k:Int),()))))) (fun k=>v4f b (a.getD k default) c) (.inl ((24:Int),())) (.inr (z0p fl a,(z0p fl' b,((i:Int),())))) (fun k hk=>by
  obtain ⟨d,hd⟩:=z1v (show k<a.length by omega)
  obtain ⟨hw,h0⟩:=stp k (by omega)
  have hlt:(k:Int)<(i:Int):=by omega
  have hi0:(0:Int)≤(i:Int):=by omega
  have r1:=v43 (fl:=fl) hc
  have r2:=v43 (fl:=fl) hd
  have h44:=u0n d c (ha d (eAu hd)) (ha c (eAu hc))
  have g1:=v62 (fl:=fl') b d.n (by omega)
  have g2:=v62 (fl:=fl') b c.n (by omega)
  rw [z2h hd]
  unfold v4f
  simp only [z0p,z1a] at h44 g1 g2
  cases ht:tch d c with
  |false=>
   rw [ht] at h44
   simp only [v58,z2d,z2e,z0p,z1a,z5s,y4y,z0p,z1a,z4b,Int.reduceLT,Int.reduceEq,Int.reduceLE,hc,hd,r1,r2,hlt,h0,hi0,hw,h44,Bool.false_and,eAi,if_false]
  |true=>
   rw [ht] at h44
   by_cases e:atI b d.n>atI b c.n
   ·have e':atI b c.n<atI b d.n:=e
    simp only [v58,z2d,z2e,z0p,z1a,z5s,y4y,z0p,z1a,z4b,Int.reduceLT,Int.reduceEq,Int.reduceLE,hc,hd,r1,r2,hlt,h0,hi0,hw,h44,g1,g2,e',Bool.true_and,if_true]
   ·have e':¬ atI b c.n<atI b d.n:=e
    simp only [v58,z2d,z2e,z0p,z1a,z5s,y4y,z0p,z1a,z4b,Int.reduceLT,Int.reduceEq,Int.reduceLE,hc,hd,r1,r2,hlt,h0,hi0,hw,h44,g1,g2,e',Bool.true_and,eAi,if_false]) (by
  have hno:¬ (i:Int)<(i:Int):=by omega
  simp only [v58,z2d,z2e,hno,if_false])
 exact key
theorem v9t (a b:List Cd) (ha:Few a) (hla:a.length≤60) (hlb:b.length≤60):
  z5r (v7e std) (z0p fl a,(z0p fl' b,((0:Int),())))=some (if ((List.range a.length).any fun i=>(List.range i).any fun k=>v4f b (a.getD k default) (a.getD i default))=true then .inl (24,()) else .inr ()):=by
 have key:=z9b (b:=v7e std) a.length (fun i=>(z0p fl a,(z0p fl' b,((i:Int),())))) (fun i=>(List.range i).any fun k=>v4f b (a.getD k default) (a.getD i default)) (.inl ((24:Int),())) (.inr ()) (fun i hi=>by
  obtain ⟨c,hc⟩:=z1v hi
  obtain ⟨hw,h0⟩:=stp i (by omega)
  have hlt:(i:Int)<a.length:=by omega
  have hle:(z0p fl a).length=a.length:=z2i a
  have h3:=v9s (fl:=fl) (fl':=fl') a b ha hla hlb i hc
  rw [z2h hc]
  cases hq:(List.range i).any fun k=>v4f b (a.getD k default) c with
  |true=>
   rw [hq] at h3
   simp only [if_true] at h3
   simp only [v7e,z2d,z2e,z4b,Int.reduceLT,Int.reduceEq,Int.reduceLE,hle,hlt,h0,hw,h3]
  |false=>
   rw [hq] at h3
   simp only [eAi,if_false] at h3
   simp only [v7e,z2d,z2e,z4b,Int.reduceLT,Int.reduceEq,Int.reduceLE,hle,hlt,h0,hw,h3,eAi,if_false]) (by
  have hno:¬ (a.length:Int)<a.length:=by omega
  have hle:(z0p fl a).length=a.length:=z2i a
  simp only [v7e,z2d,z2e,hle,hno,if_false])
 exact key
theorem v52 {a b:List Cd} (ha:a.Nodup) (hb:b.Nodup) (hl:a.length=b.length) (h:∀ c∈a,c∈b):a.Perm b:=by
 have hp:a.Perm (b.filter fun x=>decide (x∈a)):=z80 ha (hb.filter _) fun x=>by
  rw [eDa,decide_eq_true_eq]; exact ⟨fun hx=>⟨h x hx,hx⟩,fun hx=>hx.2⟩
 have:(b.filter fun x=>decide (x∈a)).length=b.length:=by rw [←hp.length_eq,hl]
 have hall:=List.length_filter_eq_length_iff.1 this
 exact z80 ha hb fun x=>⟨h x,fun hx=>by simpa using hall x hx⟩
theorem v7j {a b:List Cd} (ha:(a.map (·.n)).Nodup) (hb:(b.map (·.n)).Nodup) (hp:a.Perm b):((List.range a.length).any fun i=>(List.range i).any fun k=>v4f b (a.getD k default) (a.getD i default))=true↔¬ Eqv a b:=by
 have hat:∀ x∈a,atI b x.n=(b.idxOf x:Int):=fun x hx=>by
  have hxb:=hp.mem_iff.1 hx
  have hlt:=eDd hxb
  exact v5c hb (by rw [eAa hlt,eDe])
 constructor
 ·intro h he
  obtain ⟨i,hi,h⟩:=eCz.1 h
  obtain ⟨k,hk,h⟩:=eCz.1 h
  have hi:=eBo.1 hi
  have hk:=eBo.1 hk
  obtain ⟨x,hx⟩:=z1v (show k<a.length by omega)
  obtain ⟨y,hy⟩:=z1v hi
  rw [z2h hx,z2h hy] at h
  unfold v4f at h
  rw [eAb,decide_eq_true_eq,hat x (eAu hx),hat y (eAu hy)] at h
  have hix:a.idxOf x=k:=by
   have:=v3r ha hx
   have h2:=v3r ha (i:=a.idxOf x) (c:=x) (by have:=eDd (eAu hx); rw [eAa this,eDe])
   omega
  have hiy:a.idxOf y=i:=by
   have:=v3r ha hy
   have h2:=v3r ha (i:=a.idxOf y) (c:=y) (by have:=eDd (eAu hy); rw [eAa this,eDe])
   omega
  have ho:ord a x y=true:=x2a.2 ⟨h.1,by omega⟩
  rw [he.2 x (eAu hx) y (eAu hy)] at ho
  have:=(x2a.1 ho).2
  omega
 ·intro hne
  refine Decidable.byContradiction fun hno=>hne ⟨hp,?_⟩
  have key:∀ x∈a,∀ y∈a,ord a x y=true→ord b x y=true:=by
   intro x hx y hy ho
   obtain ⟨ht,hi⟩:=x2a.1 ho
   refine x2a.2 ⟨ht,?_⟩
   rcases Nat.lt_trichotomy (b.idxOf x) (b.idxOf y) with h|h|h
   ·exact h
   ·exact absurd (v49 (hp.mem_iff.1 hx) h) (v6j ho)
   ·exfalso
    apply hno
    have ix:=eDd hx
    have iy:=eDd hy
    refine eCz.2 ⟨a.idxOf y,eBo.2 iy,eCz.2 ⟨a.idxOf x,eBo.2 hi,?_⟩⟩
    have gx:a[a.idxOf x]?=some x:=by rw [eAa ix,eDe]
    have gy:a[a.idxOf y]?=some y:=by rw [eAa iy,eDe]
    rw [z2h gx,z2h gy]
    unfold v4f
    rw [eAb,decide_eq_true_eq,hat x hx,hat y hy]
    exact ⟨ht,by omega⟩
  intro x hx y hy
  cases h:ord a x y with
  |true=>exact (key x hx y hy h).symm
  |false=>
   cases h2:ord b x y with
   |false=>rfl
   |true=>
    exfalso
    rcases v3x hx (v6j h2) (x2a.1 h2).1 with h3|h3
    ·rw [h] at h3; cases h3
    ·have:=key y hy x hx h3
     rw [x7q this] at h2; cases h2
theorem u5m (a b:List Cd) (ha:Few a) (hb:Few b):G36 std (z0p fl a,(z0p fl' b,()))=some (v4n a b,()):=by
 have h82:=u5a (fl:=fl) (fl':=fl') a b ha hb
 have e1:(z0p fl a).length=a.length:=z2i a
 have e2:(z0p fl' b).length=b.length:=z2i b
 unfold G36 v4n
 by_cases h:v4g a b=0
 ·obtain ⟨da,db⟩:=v3l.1 h
  obtain ⟨a1,a2,a3,a4,a5⟩:=z21 da
  obtain ⟨b1,b2,b3,b4,b5⟩:=z21 db
  by_cases hl:a.length=b.length
  ·have hl':(a.length:Int)=(b.length:Int):=by omega
   have h1:=v9u (fl:=fl) (fl':=fl') a b ha a1 b1 b2
   cases hq:a.any (fun c=>!decide (c∈b)) with
   |true=>
    have hp:¬ a.Perm b:=fun hp=>by
     obtain ⟨c,hc,hn⟩:=eCz.1 hq
     simp [hp.mem_iff.1 hc] at hn
    rw [hq] at h1
    simp only [if_true] at h1
    simp only [z2d,z2e,z4b,Int.reduceLT,Int.reduceEq,Int.reduceLE,h82,h,e1,e2,hl',h1,hp,ne_eq]
   |false=>
    have hall:∀ c∈a,c∈b:=fun c hc=>by
     rw [List.any_eq_false] at hq
     simpa using hq c hc
    have hp:=v52 a3 b3 hl hall
    rw [hq] at h1
    simp only [eAi,if_false] at h1
    have h2:=v9t (fl:=fl) (fl':=fl') a b ha a1 b1
    have hw:=v7j a2 b2 hp
    have hle:=v5b (z24 a2) a3 hp
    by_cases he:Eqv a b
    ·have:((List.range a.length).any fun i=>(List.range i).any fun k=>v4f b (a.getD k default) (a.getD i default))=false:=by
      rw [Bool.eq_false_iff]; exact fun e=>hw.1 e he
     rw [this] at h2
     simp only [eAi,if_false] at h2
     have hs:(if z20 a=z20 b then (0:Int) else 24)=0:=if_pos (hle.2 he)
     simp only [z2d,z2e,z4b,Int.reduceLT,Int.reduceEq,Int.reduceLE,h82,h,e1,e2,hl',h1,h2,hp,hs,ne_eq]
    ·rw [hw.2 he] at h2
     simp only [if_true] at h2
     have hs:(if z20 a=z20 b then (0:Int) else 24)=24:=if_neg fun e=>he (hle.1 e)
     simp only [z2d,z2e,z4b,Int.reduceLT,Int.reduceEq,Int.reduceLE,h82,h,e1,e2,hl',h1,h2,hp,hs,ne_eq]
  ·have hl':¬ (a.length:Int)=(b.length:Int):=by omega
   have hp:¬ a.Perm b:=fun hp=>hl hp.length_eq
   simp only [z2d,z2e,z4b,Int.reduceLT,Int.reduceEq,Int.reduceLE,h82,h,e1,e2,hl',hp,ne_eq]
 ·simp only [z2d,z2e,z4b,Int.reduceLT,Int.reduceEq,Int.reduceLE,h82,h,ne_eq]
end Go.Am
end
section
namespace Go.Am
open D12
variable {fl fl':List Int→Bool}
theorem u2j (l:List Int) (hl:l.length≤1000000) (hn:l.Nodup):u2k std (z1a l,())=some (z1a (srt l),()):=by
 have hs:=(srt_perm l).length_eq
 obtain ⟨R,k,hr,hR,hk⟩:=x90 (srt l) (by omega)
 have hna:¬ Adj (srt l):=fun h=>y2h h ((srt_perm l).nodup_iff.2 hn)
 have hk:R=srt l∧k=(srt l).length:=by
  rcases hk with ⟨_,h1,h2⟩|⟨h,_⟩
  ·exact ⟨h1,h2⟩
  ·exact absurd h hna
 obtain ⟨rfl,rfl⟩:=hk
 have h108:=x91 l hl
 rw [hs] at hr
 unfold u2k
 have h1:(0:Int)≤l.length:=by omega
 have h2:(l.length:Int)≤1000000:=by omega
 simp only [z2d,z2e,z4b,Int.reduceLT,Int.reduceEq,Int.reduceLE,z00,h1,h2,List.length_replicate,eAk,Int.le_refl,eAp]
 have hsp:=spl l
 simp only [z00,eAp] at hsp
 simp only [hsp,h108,z2d,z2e,hr,z00,hs,eAk,eDj]
 have:(z1a (srt l)).take l.length=z1a (srt l):=List.take_of_length_le (by rw [z00,hs]; exact eAk _)
 simp [this]
namespace D12
def mxl (L:List (Int×Nat)):List Int→Nat
 |[]=>0
 |x::t=>max ((z22 L x).getD 0) (mxl L t)
theorem v7u {L:List (Int×Nat)} {t:List Int} {m:Nat}:mxl L t≤m↔∀ x∈t,(z22 L x).getD 0≤m:=by
 induction t with
 |nil=>simp [mxl]
 |cons x t ih=>
  simp only [mxl,eAz,Nat.max_le,ih]
  constructor
  ·rintro ⟨h1,h2⟩ y (rfl|h)
   ·exact h1
   ·exact h2 y h
  ·intro h; exact ⟨h x (.inl rfl),fun y hy=>h y (.inr hy)⟩
structure u6c (l:List Cd) (F:Cd→Nat) (p:List Cd) (L:List (Int×Nat)):Prop where
 last:∀ x,z22 L x=(on x p).getLast?.map F
theorem v82 {l p q:List Cd} {c:Cd} (hn:l.Nodup) (hl:l=p++c::q) {F:Cd→Nat} (hF:Rd l F) {L:List (Int×Nat)} (hL:u6c l F p L):mxl L c.t+1=F c:=by
 have hcl:c∈l:=by rw [hl]; simp
 have hcp:c∉p:=by
  rw [hl] at hn
  exact fun h=>(eDg.1 hn).2.2 c h c (eBq ..) rfl
 have hpc:pre l c=p:=v5j hl hcp
 rw [hF c hcl]
 congr 1
 apply Nat.le_antisymm
 ·rw [v7u]
  intro x hx
  rw [hL.last x]
  cases hq:(on x p).getLast? with
  |none=>simp
  |some e=>
   have hep:=x3y.1 (eDm hq)
   have hel:e∈l:=by rw [hl]; exact eDl _ hep.1
   refine v3n (eDa.2 ⟨hel,?_⟩)
   have:e∈pre l c:=by rw [hpc]; exact hep.1
   exact x2a.2 ⟨w32.2 ⟨x,hep.2,hx⟩,(v46 hel).1 this⟩
 ·rw [v4r]
  intro d hd
  obtain ⟨hdl,hdo⟩:=eDa.1 hd
  obtain ⟨ht,hi⟩:=x2a.1 hdo
  obtain ⟨x,hxd,hxc⟩:=w32.1 ht
  have hdp:d∈p:=by rw [←hpc]; exact (v46 hdl).2 hi
  have hdon:d∈on x p:=x3y.2 ⟨hdp,hxd⟩
  obtain ⟨e,he⟩:∃ e,(on x p).getLast?=some e:=by
   cases hq:(on x p).getLast? with
   |none=>rw [List.getLast?_eq_none_iff.1 hq] at hdon; cases hdon
   |some e=>exact ⟨e,rfl⟩
  have h1:=v7u.1 (eAk (mxl L c.t)) x hxc
  rw [hL.last x,he] at h1
  refine eBf ?_ h1
  show F d≤F e
  have hep:=x3y.1 (eDm he)
  have hel:e∈l:=by rw [hl]; exact eDl _ hep.1
  by_cases e1:d=e
  ·rw [e1]; exact eAk _
  ·have hpn:p.Nodup:=by rw [hl] at hn; exact (eDg.1 hn).1
   have hlt:l.idxOf d<l.idxOf e:=by
    have hip:∀ z∈p,l.idxOf z=p.idxOf z:=fun z hz=>by rw [hl,List.idxOf_append,if_pos hz]
    rw [hip d hdp,hip e hep.1]
    have hpw:=(w29 hpn).filter (fun c=>c.t.contains x)
    have hne:on x p≠[]:=fun h=>by rw [h] at hdon; cases hdon
    have hsp:on x p=(on x p).dropLast++[e]:=by
     have:=List.dropLast_concat_getLast hne
     have e2:(on x p).getLast hne=e:=by
      rw [List.getLast?_eq_some_getLast hne] at he
      exact Option.some.inj he
     rw [e2] at this; exact this.symm
    have hpw':(on x p).Pairwise fun u v=>p.idxOf u<p.idxOf v:=hpw
    rw [hsp] at hpw' hdon
    rcases eBj.1 hdon with h|h
    ·exact (List.pairwise_append.1 hpw').2.2 d h e (by simp)
    ·exact absurd (eBe.1 h) e1
   exact Nat.le_of_lt (u6i hF hdl hel (x2a.2 ⟨w32.2 ⟨x,hxd,hep.2⟩,hlt⟩))
def v3q (F:Cd→Nat) (p:List Cd):List (List Int):=(List.range (mxs F p)).map fun m=>v4h p F (m+1)
theorem v7o (F:Cd→Nat) (p:List Cd):(v3q F p).length=mxs F p:=by simp [v3q]
theorem v5h {F:Cd→Nat} {p:List Cd} {c:Cd} (m:Nat):v4h (p++[c]) F m=if F c=m then srt (v4h p F m++[c.n]) else v4h p F m:=by
 unfold v4h
 rw [List.filter_append,eDu]
 by_cases h:F c=m
 ·rw [if_pos h,List.filter_cons_of_pos (by simpa using h)]
  refine x69 ?_
  simp only [List.filter_nil,eDc,eDh]
  exact List.Perm.append_right _ (srt_perm _).symm
 ·rw [if_neg h,List.filter_cons_of_neg (by simpa using h)]
  simp
theorem v67 {F:Cd→Nat} {p:List Cd} {c:Cd} {r:Nat} (hr:r+1=F c) (hle:r≤mxs F p):
  ((v3q F p++if r=mxs F p then [[]] else []).set r (srt (v4h p F (r+1)++[c.n])))=v3q F (p++[c]):=by
 have hm:mxs F (p++[c])=if r=mxs F p then mxs F p+1 else mxs F p:=by
  rw [v69]
  have:mxs F [c]=F c:=by simp [mxs]
  rw [this, ←hr]
  split<;>omega
 apply eBd
 intro i
 unfold v3q
 rw [hm]
 by_cases hi:i=r
 ·subst hi
  rw [List.getElem?_set_self (by simp; split<;>simp<;>omega),eAg,List.getElem?_range (by split<;>omega)]
  simp only [eBh]
  rw [v5h,if_pos hr.symm]
 ·rw [List.getElem?_set_ne (fun h=>hi h.symm)]
  have hne:¬ F c=i+1:=by omega
  by_cases hlt:i<mxs F p
  ·rw [eBz (by simpa using hlt),eAg,eAg,List.getElem?_range hlt,List.getElem?_range (by split<;>omega)]
   simp only [eBh]
   rw [v5h,if_neg hne]
  ·rw [eCv (by simpa using hlt),eCt (l:=(List.range _).map _) (by simp; split<;>omega)]
   split
   ·rename_i h
    rw [eCt]
    simp; omega
   ·simp
end D12
theorem v9x (R lc ls:List (List D)) (cn ck ca n i:Int) (L:List (Int×Nat)) (t:List Int) (ht:t.length≤1000000):
  z5r (v7g std) (z75 L,(R,(cn,(ck,(lc,(ca,((0:Int),(ls,(n,(i,(z1a t,((t.length:Int),((0:Int),())))))))))))))=some (z75 L,(R,(cn,(ck,(lc,(ca,(((mxl L t:Nat):Int),(ls,(n,(i,())))))))))):=by
 have key:=z46 (b:=v7g std) t (fun (r:Nat) j=>(z75 L,(R,(cn,(ck,(lc,(ca,((r:Int),(ls,(n,(i,(z1a t,((t.length:Int),((j:Int),())))))))))))))) (fun r x=>max r ((z22 L x).getD 0)) (fun _ _=>True) (fun r=>(z75 L,(R,(cn,(ck,(lc,(ca,((r:Int),(ls,(n,(i,())))))))))))
  (fun r j x hx _=>by
   have hj:j<t.length:=(eAd.1 hx).1
   obtain ⟨hw,h0⟩:=stp j (by omega)
   have hlt:(j:Int)<t.length:=by omega
   have hrow:=u3f hx
   refine ⟨?_,trivial⟩
   cases hv:z22 L x with
   |none=>
    have hh:(z22 L x).isSome=false:=by rw [hv]; rfl
    have hm:max (r:Int) 0=((max r 0:Nat):Int):=by omega
    simp only [v7g,z2d,z2e,z1a,y8q,w5s,z4b,Int.reduceLT,Int.reduceEq,Int.reduceLE,hx,hrow,hlt,h0,hw,v91,v5d,hv,Option.isSome_none,eAi,if_false,hm,Option.getD_none]
   |some k=>
    have hg:=u2g hv
    have hm:max (r:Int) (k:Int)=((max r k:Nat):Int):=by omega
    simp only [v7g,z2d,z2e,z1a,y8q,w5s,z4b,Int.reduceLT,Int.reduceEq,Int.reduceLE,hx,hrow,hlt,h0,hw,v91,v5d,hv,Option.isSome_some,hg,hm,eBk])
  (fun r _=>by
   have hno:¬ (t.length:Int)<t.length:=by omega
   simp only [v7g,z2d,z2e,hno,if_false,z4b,Int.reduceLT,Int.reduceEq,Int.reduceLE]) 0 trivial
 have hfold:∀ (t:List Int) (r:Nat),t.foldl (fun r x=>max r ((z22 L x).getD 0)) r=max r (mxl L t):=by
  intro t
  induction t with
  |nil=>intro r; simp [mxl]
  |cons x t ih=>intro r; rw [eDs,ih,mxl]; omega
 have h:=key.1
 rw [hfold t 0] at h
 simp only [Nat.zero_max] at h
 exact h
theorem v9w (R ls:List (List D)) (n i:Int) (r:Nat) (hr:r≤1000000) (t:List Int) (ht:t.length≤1000000) (L:List (Int×Nat)):
  z5r (v7f std) (z75 L,(R,((r:Int),(ls,(n,(i,(z1a t,((t.length:Int),((0:Int),())))))))))=some (z75 (t.foldl (fun L x=>v4b L x (r+1)) L),(R,(ls,(n,(i,()))))):=by
 have key:=z46 (b:=v7f std) t (fun (L:List (Int×Nat)) j=>(z75 L,(R,((r:Int),(ls,(n,(i,(z1a t,((t.length:Int),((j:Int),())))))))))) (fun L x=>v4b L x (r+1)) (fun _ _=>True) (fun L=>(z75 L,(R,(ls,(n,(i,()))))))
  (fun L j x hx _=>by
   have hj:j<t.length:=(eAd.1 hx).1
   obtain ⟨hw,h0⟩:=stp j (by omega)
   have hlt:(j:Int)<t.length:=by omega
   have hrow:=u3f hx
   have hwr:IntKind.i64.wrap ((r:Int)+1)=((r+1:Nat):Int):=w0a (by omega)
   refine ⟨?_,trivial⟩
   cases hv:z22 L x with
   |none=>
    have ha:=u2h hv (r+1)
    simp only [v7f,z2d,z2e,z1a,y8q,w5s,z4b,Int.reduceLT,Int.reduceEq,Int.reduceLE,hx,hrow,hlt,h0,hw,hwr,v91,v5d,hv,Option.isSome_none,eAi,if_false,ha]
   |some k=>
    have ha:=u4y hv (r+1)
    simp only [v7f,z2d,z2e,z1a,y8q,w5s,z4b,Int.reduceLT,Int.reduceEq,Int.reduceLE,hx,hrow,hlt,h0,hw,hwr,v91,v5d,hv,Option.isSome_some,ha])
  (fun L _=>by
   have hno:¬ (t.length:Int)<t.length:=by omega
   simp only [v7f,z2d,z2e,hno,if_false,z4b,Int.reduceLT,Int.reduceEq,Int.reduceLE]) L trivial
 exact key.1
theorem v6h (r:Nat):∀ (t:List Int) (L:List (Int×Nat)) (x:Int),z22 (t.foldl (fun L x=>v4b L x r) L) x=if x∈t then some r else z22 L x
 |[],L,x=>by simp
 |y::t,L,x=>by
  rw [eDs,v6h r t,v28]
  by_cases h:x∈t
  ·simp [h]
  ·by_cases e:x=y
   ·simp [e]
   ·simp [h,e]
theorem v7p {l p:List Cd} {F:Cd→Nat} {L:List (Int×Nat)} {c:Cd} (h:u6c l F p L):u6c l F (p++[c]) (c.t.foldl (fun L x=>v4b L x (F c)) L):=by
 refine ⟨fun x=>?_⟩
 rw [v6h,v3d,h.last x]
 by_cases hx:x∈c.t
 ·have:on x [c]=[c]:=by rw [v44 hx]; rfl
  rw [if_pos hx,this]; simp
 ·have:on x [c]=[]:=by simp [on,hx]
  rw [if_neg hx,this]; simp
def tru:List Int→Bool:=fun _=>true
theorem v4q {l:List Cd} (hn:l.Nodup) {F:Cd→Nat} (hF:Rd l F):∀ (p q:List Cd),l=p++q→mxs F p≤p.length:=by
 have key:∀ (n:Nat) (c:Cd),c∈l→l.idxOf c=n→F c≤n+1:=by
  intro n
  induction n using Nat.strongRecOn with
  |_ n ih=>
   intro c hc hi
   rw [hF c hc]
   have:mxs F (l.filter fun d=>ord l d c)≤n:=v4r.2 fun d hd=>by
    obtain ⟨h1,h2⟩:=eDa.1 hd
    have h3:=(x2a.1 h2).2
    have:=ih (l.idxOf d) (by omega) d h1 rfl
    omega
   omega
 intro p q hl
 rw [v4r]
 intro c hc
 have hcl:c∈l:=by rw [hl]; exact eDl _ hc
 have h1:=key _ c hcl rfl
 have h2:l.idxOf c<p.length:=by rw [hl,List.idxOf_append,if_pos hc]; exact eDd hc
 omega
theorem v9y (l:List Cd) (hl:l.length≤60) (hm:(l.map (·.n)).Nodup) (hf:Few l):
  z5r (v7h std) ([],([],(z0p fl l,((l.length:Int),((0:Int),())))))=some (v24 tru (z25 l),()):=by
 have hn:=z37 hm
 have hF:=v80 l
 generalize hFF:u0y l=F at hF
 have key:=y6h (b:=v7h std) l.length (fun (L:List (Int×Nat)) i=>(z75 L,(v24 tru (v3q F (l.take i)),(z0p fl l,((l.length:Int),((i:Int),())))))) (fun L i=>u6c l F (l.take i) L) (fun r=>r=(v24 tru (z25 l),()))
  (fun L i hi hI=> .inl (by
   obtain ⟨c,hc⟩:=z1v hi
   obtain ⟨hw,h0⟩:=stp i (by omega)
   have hlt:(i:Int)<l.length:=by omega
   have hrow:=v43 (fl:=fl) hc
   have hsp:l=l.take i++c::l.drop (i+1):=by
    conv=>lhs; rw [←List.take_append_drop i l,v3t hc]
   have hr:=v82 hn hsp hF hI
   have hlen:=v4q hn hF (l.take i) _ hsp
   rw [eBv] at hlen
   have htk:l.take (i+1)=l.take i++[c]:=by rw [eDo,hc]; rfl
   have hle:mxl L c.t≤mxs F (l.take i):=by
    rw [v7u]
    intro x hx
    rw [hI.last x]
    cases hq:(on x (l.take i)).getLast? with
    |none=>simp
    |some e=>exact v3n (v4p (eDm hq))
   have hstep:=v67 (F:=F) (p:=l.take i) (c:=c) hr hle
   have h2:=v9x (v24 tru (v3q F (l.take i))) (c.t.map eI) (z0p fl l) c.n c.k c.a (l.length:Int) (i:Int) L c.t (hf c (eAu hc))
   have hRn:(l.take i).length≤60:=by rw [eBv]; omega
   have hnum:∀ m,(v4h (l.take i) F m).length≤60∧(v4h (l.take i) F m++[c.n]).Nodup:=by
    intro m
    have hp:(v4h (l.take i) F m).Perm (((l.take i).filter fun c=>decide (F c=m)).map (·.n)):=srt_perm _
    refine ⟨?_,?_⟩
    ·rw [hp.length_eq,eBt]; exact eBf (List.length_filter_le _ _) hRn
    ·refine (List.Perm.append_right [c.n] hp).nodup_iff.2 ?_
     have h3:((l.take (i+1)).map (·.n)).Nodup:=hm.sublist ((List.take_sublist _ _).map _)
     rw [htk,eDu] at h3
     exact h3.sublist (List.Sublist.append ((List.filter_sublist).map _) (List.Sublist.refl _))
   have h57:=fun m=>u2j (v4h (l.take i) F m++[c.n]) (by have:=(hnum m).1; simp; omega) (hnum m).2
   generalize hrr:mxl L c.t=r at*
   have h3:=fun R=>v9w R (z0p fl l) (l.length:Int) (i:Int) r (by omega) c.t (hf c (eAu hc)) L
   rw [hr] at h3
   refine ⟨c.t.foldl (fun L x=>v4b L x (F c)) L,?_,by rw [htk]; exact v7p hI⟩
   rw [htk, ←hstep]
   have hRl:=v7o F (l.take i)
   have hgetR:∀ m,m<mxs F (l.take i)→(v3q F (l.take i))[m]?=some (v4h (l.take i) F (m+1)):=fun m hm=>by
    unfold v3q; rw [eAg,List.getElem?_range hm]; rfl
   generalize v3q F (l.take i)=R at*
   have hel:(R.map (eLf tru)).length=mxs F (l.take i):=by rw [eBt,hRl]
   have hr0:(0:Int)≤(r:Int):=by omega
   have htl:(c.t.map eI).length=c.t.length:=by simp
   have hF2:∀ (E:List (List D)) (f:Bool) (z:Nat) (es:List (List D)),E[r]?=some [D.list f z es]→std.rdF E r 0 1=(f&&(Nat.beq 1 z||es.isEmpty)):=fun E f z es h=>by
    show dF 1 (((E[r]?).bind fun r=>r[0]?).getD .nilp)=_
    rw [h]; rfl
   by_cases e:r=mxs F (l.take i)
   ·have hnil:v4h (l.take i) F (r+1)=[]:=by
     have:(l.take i).filter (fun c=>decide (F c=r+1))=[]:=by
      rw [List.filter_eq_nil_iff]
      intro d hd
      have:=v3n (F:=F) hd
      simp; omega
     unfold v4h; rw [this]; rfl
    have h57':=h57 (r+1)
    rw [hnil] at h57'⊢
    rw [if_pos e]
    clear hnum h57 hgetR hstep hnil
    rw [←e] at hel hRl hlen hle
    have hee:(mxs F (l.take i):Nat)=r:=e.symm
    have c2:(r:Int)<((r+1:Nat):Int):=by omega
    have c3:r+1≤1000000:=by omega
    have c4:(R.map (eLf tru)).take r=R.map (eLf tru):=List.take_of_length_le (by omega)
    have hrw:(R.map (eLf tru)++[[D.list true 0 []]])[r]?=some [D.list true 0 []]:=by
     rw [eCv (by omega),hel,Nat.sub_self]; rfl
    have hrF:=hF2 _ _ _ _ hrw
    have hset:(R.map (eLf tru)++[[D.list true 0 []]]).set r [D.list true 1 (z1a (srt ([]++[c.n])))]=((R++[[]]).set r (srt ([]++[c.n]))).map (eLf tru):=by
     rw [List.set_append_right _ _ (by omega),List.set_append_right _ _ (by omega),hel,hRl,Nat.sub_self]
     simp [eLf,tru]
    have hln:(R.map (eLf tru)++[[D.list true 0 []]]).length=r+1:=by rw [eBu,hel]; rfl
    have hln2:(((R++[[]]).set r (srt ([]++[c.n]))).map (eLf tru)).length=r+1:=by simp [hRl]
    have hcok:z3k [CK.list 1] [D.list true 0 []]=true:=rfl
    have hdl:dL (D.list true 0 [])=[]:=rfl
    have hrF:std.rdF (R.map (eLf tru)++[[D.list true 0 []]]) r 0 1=true:=hrF
    have h57':u2k std ([[D.int .i64 c.n]],())=some ((srt [c.n]).map eI,()):=h57'
    have hset:(R.map (eLf tru)++[[D.list true 0 []]]).set r [D.list true 1 ((srt [c.n]).map eI)]=((R++[[]]).set r (srt [c.n])).map (eLf tru):=hset
    have hln2:(((R++[[]]).set r (srt [c.n])).map (eLf tru)).length=r+1:=hln2
    have c5:1≤1000000:=by omega
    simp only [v24,z0p,z1a] at h2 h3
    simp only [v7h,z2d,z2e,z0p,z1a,z5s,y4y,v24,z0p,z1a,z4b,Int.reduceLT,Int.reduceEq,Int.reduceLE,hc,hrow,hlt,h0,hw,h2,hel,c2,c3,c4,hln,eDj,List.take_succ_cons,List.take_zero,eAk,eDq,if_true,hr0,hrw,hcok,hdl,hrF,eAp,eDp,eCo,eBk,List.length_nil,c5,h57',hset,hln2,h3,htl]
   ·have hlt2:r<mxs F (l.take i):=by omega
    have h57':=h57 (r+1)
    have hrl:=(hnum (r+1)).1
    have hg:=hgetR r hlt2
    rw [if_neg e,eCn]
    clear hnum h57 hgetR hstep
    generalize v4h (l.take i) F (r+1)=S at*
    generalize mxs F (l.take i)=M at*
    have c1:¬ (r:Int)=(M:Int):=by omega
    have c2:(r:Int)<(M:Int):=by omega
    have hrw:(R.map (eLf tru))[r]?=some [D.list true 1 (S.map eI)]:=by rw [eAg,hg]; rfl
    have hrF:std.rdF (R.map (eLf tru)) r 0 1=true:=hF2 _ _ _ _ hrw
    have hset:(R.map (eLf tru)).set r [D.list true 1 ((srt (S++[c.n])).map eI)]=(R.set r (srt (S++[c.n]))).map (eLf tru):=by
     rw [List.map_set]; rfl
    have hln2:((R.set r (srt (S++[c.n]))).map (eLf tru)).length=M:=by simp [hRl]
    have hcok:z3k [CK.list 1] [D.list true 1 (S.map eI)]=true:=rfl
    have hdl:dL (D.list true 1 (S.map eI))=S.map eI:=rfl
    have hsl:(S.map eI).length=S.length:=by simp
    have c5:S.length+1≤1000000:=by omega
    have h57':u2k std (S.map eI++[[D.int .i64 c.n]],())=some ((srt (S++[c.n])).map eI,()):=by
     have e2:S.map eI++[[D.int .i64 c.n]]=z1a (S++[c.n]):=by simp [z1a,eI]
     rw [e2]; exact h57'
    simp only [v24,z0p,z1a] at h2 h3
    simp only [v7h,z2d,z2e,z0p,z1a,z5s,y4y,v24,z0p,z1a,z4b,Int.reduceLT,Int.reduceEq,Int.reduceLE,hc,hrow,hlt,h0,hw,h2,hel,c1,c2,eDj,List.take_succ_cons,List.take_zero,eAk,eDq,if_true,hr0,hrw,hcok,hdl,hrF,eAp,eCo,eBk,hsl,c5,h57',hset,hln2,h3,htl]))
  (fun L hI=>⟨(v24 tru (z25 l),()),by
   have hno:¬ (l.length:Int)<l.length:=by omega
   rw [eDf]
   have:v3q F l=z25 l:=by unfold v3q z25; rw [hFF]
   rw [this]
   simp only [v7h,z2d,z2e,hno,if_false,z4b,Int.reduceLT,Int.reduceEq,Int.reduceLE],rfl⟩) [] 0 (eAv _) ⟨fun x=>by simp [z22,on]⟩
 obtain ⟨r,h1,rfl⟩:=key
 exact h1
theorem u0q (l:List Cd) (hf:Few l):G27 std (z0p fl l,())=some ((if z4y l=0 then v24 tru (z25 l) else []),(z4y l,())):=by
 have h19:=w3q (fl:=fl) l hf
 have hle:(z0p fl l).length=l.length:=z2i l
 unfold G27
 by_cases h:z4y l=0
 ·obtain ⟨h1,h2,h3,h4,h5⟩:=z21 h
  have hb:=v9y (fl:=fl) l h1 h2 hf
  simp only [z2d,z2e,z4b,Int.reduceLT,Int.reduceEq,Int.reduceLE,h19,h,hle,hb]
 ·simp only [z2d,z2e,z4b,Int.reduceLT,Int.reduceEq,Int.reduceLE,h19,h]
end Go.Am
end
section
namespace Go.Am
open D12
variable {fl fl':List Int→Bool}
theorem v5g (l:List Cd):(z25 l).length=mxs (u0y l) l:=by simp [z25]
theorem v8z (l:List Cd) (F:Cd→Nat) (m:Nat):(v4h l F m).length≤l.length:=by
 unfold v4h
 rw [(srt_perm _).length_eq,eBt]
 exact List.length_filter_le _ _
theorem v3w {l m:List Cd} (h:z4y l=0) (hp:m.Perm l):z4y m=0:=by
 obtain ⟨h1,h2,h3⟩:=z53.1 h
 exact z53.2 ⟨by rw [hp.length_eq]; exact h1,fun c hc=>h2 c (hp.mem_iff.1 hc),(hp.map _).nodup_iff.2 h3⟩
end Go.Am
end
section
namespace Go.Am
open D12
variable {fl fl':List Int→Bool}
theorem v5f {a b:List Th} (ha:(nums a).Nodup) (hb:(nums b).Nodup) (h:fnd a=fnd b):v23 a=v23 b:=by
 have one:∀ {a b:List Th},fnd a=fnd b→∀ x,x∈nums a→x∈nums b:=by
  intro a b h x hx
  obtain ⟨t,ht⟩:=v77 hx
  rw [h] at ht
  have:=v33 ht
  unfold fnd at ht
  unfold nums
  exact eBb.2 ⟨t,eDb ht,this⟩
 unfold v23
 rw [h,x69 ((List.perm_ext_iff_of_nodup ha hb).2 fun x=>⟨one h x,one h.symm x⟩)]
def swp (t:List Cd) (k:Nat) (x y:Cd):List Cd:=(t.set k y).set (k+1) x
theorem u3d {t:List Cd} {k:Nat} {x y:Cd} (hx:t[k]?=some x) (hy:t[k+1]?=some y):t=t.take k++x::y::t.drop (k+2)∧swp t k x y=t.take k++y::x::t.drop (k+2):=by
 have hk1:k+1<t.length:=(eAd.1 hy).1
 have hdk:t.drop k=x::t.drop (k+1):=v3t hx
 have hdk2:t.drop (k+1)=y::t.drop (k+2):=v3t hy
 have hsl:t=t.take k++x::y::t.drop (k+2):=by rw [←hdk2, ←hdk,List.take_append_drop]
 have hkl:(t.take k).length=k:=by rw [eBv]; omega
 refine ⟨hsl,?_⟩
 unfold swp
 conv=>lhs; rw [hsl]
 rw [List.set_append_right _ _ (by omega),hkl,Nat.sub_self,List.set_cons_zero,List.set_append_right _ _ (by omega),hkl,Nat.add_sub_cancel_left,List.set_cons_succ,List.set_cons_zero]
theorem v9r (l:List Cd) (by':List Int) (hl:l.length≤60) (hb:by'.length≤200) (hz:∀ z∈by',0≤z∧z≤255) (hn:l.Nodup) (hf:Few l):
  ∃ m:List Cd,Eqv l m∧z5r (v57 std) (z0p fl l,(v5x by',(0,(l.length,((0:Int),())))))=some (z0p fl m,(0,(l.length,()))):=by
 have key:=y6h (b:=v57 std) by'.length (fun (t:List Cd) i=>(z0p fl t,(v5x by',(0,(l.length,((i:Int),()))))))
  (fun t i=>Eqv l t)
  (fun r=>∃ m:List Cd,Eqv l m∧r=(z0p fl m,(0,(l.length,()))))
  (fun t i hi hI=>by
   have htl:=hI.1.length_eq
   have hyl:(v5x by').length=by'.length:=v3g by'
   have hlt:(i:Int)<(by'.length:Int):=by omega
   by_cases h2:1<l.length
   ·left
    obtain ⟨hw,h0⟩:=stp i (by omega)
    obtain ⟨z,hzk⟩:=z1v hi
    have hzr:(by'.map eY)[i]?=some (eY z):=by rw [eAg,hzk]; rfl
    obtain ⟨z0,z1⟩:=hz z (eAu hzk)
    have wz:IntKind.i64.wrap z=z:=w21 _ (by omega) (by omega)
    obtain ⟨zn,rfl⟩:=Int.eq_ofNat_of_zero_le z0
    have h2':(1:Int)<(l.length:Int):=by omega
    have w1:std.ar .sub .i64 (l.length:Int) 1=((l.length - 1:Nat):Int):=by rw [z84,w21 _ (by omega) (by omega)]; omega
    have w1':IntKind.i64.wrap ((l.length:Int) - 1)=((l.length - 1:Nat):Int):=by rw [w21 _ (by omega) (by omega)]; omega
    have w2:¬ ((l.length - 1:Nat):Int)=0:=by omega
    have hk:zn % (l.length - 1)<l.length - 1:=eCr _ (by omega)
    have w3:std.ar .rem .i64 (zn:Int) ((l.length - 1:Nat):Int)=((zn % (l.length - 1):Nat):Int):=by
     rw [v4k,Int.tmod_eq_emod_of_nonneg (by omega)]; omega
    generalize zn % (l.length - 1)=k at*
    obtain ⟨x,hx⟩:=z1v (show k<t.length by omega)
    obtain ⟨y,hy⟩:=z1v (show k+1<t.length by omega)
    have hxm:=eAu hx
    have hym:=eAu hy
    have g44:=u0n x y (hf x (hI.1.mem_iff.2 hxm)) (hf y (hI.1.mem_iff.2 hym))
    have rx:=v43 (fl:=fl) hx
    have ry:=v43 (fl:=fl) hy
    have w4:IntKind.i64.wrap ((k:Int)+1)=((k+1:Nat):Int):=w0a (by omega)
    have q1:(0:Int)≤(k:Int):=by omega
    have q2:(0:Int)≤((k+1:Nat):Int):=by omega
    have q3:(k:Int)<(l.length:Int):=by omega
    have q4:((k+1:Nat):Int)<(l.length:Int):=by omega
    have hyl2:(by'.map eY).length=by'.length:=by simp
    cases htc:tch x y with
    |true=>
     rw [htc] at g44
     refine ⟨t,?_,hI⟩
     simp only [z0p,z1a] at g44
     simp only [v57,z2d,z2e,z0p,z1a,z5s,y4y,z0p,z1a,v5x,v6s,u3y,z4b,Int.reduceLT,Int.reduceEq,Int.reduceLE,hyl2,hlt,h0,hw,hzk,hzr,wz,h2',w1,w1',w2,w3,w4,q1,q2,q3,q4,hx,hy,rx,ry,g44,eAp]
    |false=>
     rw [htc] at g44
     obtain ⟨e1,e2⟩:=u3d hx hy
     have hset:((t.map (eC fl)).set k [D.int .i64 y.n,D.int .i64 y.k,D.list (fl y.t) 1 (y.t.map eI),D.int .i64 y.a]).set (k+1) [D.int .i64 x.n,D.int .i64 x.k,D.list (fl x.t) 1 (x.t.map eI),D.int .i64 x.a]=(swp t k x y).map (eC fl):=by
      simp [swp,List.map_set,eC,z1a]
     have ry2:((t.map (eC fl)).set k [D.int .i64 y.n,D.int .i64 y.k,D.list (fl y.t) 1 (y.t.map eI),D.int .i64 y.a])[k+1]?=some (eC fl y):=by rw [List.getElem?_set_ne (by omega),ry]
     have hFx:std.rdF (t.map (eC fl)) k 2 1=fl x.t:=u6b ‹_›
     have hFy:std.rdF (t.map (eC fl)) (k+1) 2 1=fl y.t:=u6b ‹_›
     have hev:Eqv t (swp t k x y):=by
      have hnt:t.Nodup:=hI.1.nodup_iff.1 hn
      rw [e2]
      conv=>lhs; rw [e1]
      exact v8y (by rw [←e1]; exact hnt) htc
     refine ⟨swp t k x y,?_,hI.trans hev⟩
     simp only [z0p,z1a] at g44
     simp only [v57,z2d,z2e,z0p,z1a,z5s,y4y,z0p,z1a,v5x,v6s,u3y,z4b,Int.reduceLT,Int.reduceEq,Int.reduceLE,hyl2,hlt,h0,hw,hzk,hzr,wz,h2',w1,w1',w2,w3,w4,q1,q2,q3,q4,hx,hy,rx,ry,g44,eAp,hFx,hFy,hset,ry2]
   ·right
    have h2':¬ (1:Int)<(l.length:Int):=by omega
    exact ⟨_,by simp only [v57,z2d,z2e,hyl,hlt,h2',if_false,if_true,eAi],t,hI,rfl⟩)
  (fun t hI=>by
   have hyl:(v5x by').length=by'.length:=v3g by'
   have hlt:¬ (by'.length:Int)<(by'.length:Int):=by omega
   exact ⟨_,by simp only [v57,z2d,z2e,hyl,hlt,if_false,if_true,eAi],t,hI,rfl⟩) l 0 (eAv _) (Eqv.refl l)
 obtain ⟨r,h1,m,hm,rfl⟩:=key
 exact ⟨m,hm,h1⟩
theorem u5k (l:List Cd) (by':List Int) (hl:l.length≤60) (hb:by'.length≤200) (hz:∀ z∈by',0≤z∧z≤255) (hn:l.Nodup) (hf:Few l):
  ∃ m:List Cd,Eqv l m∧G42 std (z0p fl l,(v5x by',()))=some (z0p fl m,(0,(l.length,()))):=by
 have hle:(z0p fl l).length=l.length:=z2i l
 by_cases h0:l.length=0
 ·have e:l=[]:=List.eq_nil_of_length_eq_zero h0
  subst e
  refine ⟨[],Eqv.refl _,?_⟩
  have e0:z0p fl ([]:List Cd)=[]:=rfl
  have hno:¬ (1:Int)<((0:Nat):Int):=by omega
  have hit:z5r (v8p std) ([],(v5x by',(0,(0,((0:Int),())))))=some ([],(0,(0,()))):=by
   have key:=y6h (b:=v8p std) 0 (fun (_:Unit) i=>([],(v5x by',(0,(0,((i:Int),())))))) (fun _ _=>True) (fun r=>r=([],(0,(0,())))) (fun _ i hi=>by omega)
    (fun _ _=>by
     by_cases hb0:(((0:Nat):Int))<(by'.length:Int)
     ·exact ⟨_,by simp only [v8p,z2d,z2e,v3g,hb0,hno,if_false,if_true,eAi],rfl⟩
     ·exact ⟨_,by simp only [v8p,z2d,z2e,v3g,hb0,if_false,if_true,eAi],rfl⟩) () 0 (eAk _) trivial
   obtain ⟨r,k1,rfl⟩:=key
   exact k1
  unfold G42
  simp only [z2d,z2e,z4b,Int.reduceLT,Int.reduceEq,Int.reduceLE,e0,hit,eAp,eAk,eDj,List.length_nil,List.take_nil,List.drop_nil,eCn,eDp,eDq,if_true]
 ·have hl0':¬ l.length≤0:=by omega
  have hl1:1≤l.length:=by omega
  have hl2:l.length≤1000000:=by omega
  obtain ⟨m,hm,it⟩:=v9r (fl:=fl) l by' hl hb hz hn hf
  refine ⟨m,hm,?_⟩
  unfold G42
  simp only [z2d,z2e,z4b,Int.reduceLT,Int.reduceEq,Int.reduceLE,hle,hl0',hl1,hl2,it,eAp,eAk,eDj,List.length_nil,List.take_nil,List.drop_nil,eCn,eDp,eDq,if_true,if_false,eAi]
end Go.Am
end
section
namespace Go.Am
open D12
variable {fl fl':List Int→Bool}
theorem split_at {l:List Cd} {i:Nat} {x:Cd} (h:l[i]?=some x):l=l.take i++x::l.drop (i+1)∧(l.take i).length=i:=by
 have hlt:i<l.length:=(eAd.1 h).1
 exact ⟨by rw [←v3t h,List.take_append_drop],by rw [eBv]; omega⟩
theorem v79 {l:List Cd} {i:Nat} {x:Cd} (h:l[i]?=some x):(v3k no l)[i]?=some (errC (st (l.take i)) x):=by
 obtain ⟨e,hl⟩:=split_at h
 have:=v9d (s:=no) (p:=l.take i) (q:=l.drop (i+1)) (c:=x)
 rw [←e,hl] at this
 exact this
theorem u1z (l m:List Cd) (X:List (List D)) (hl:l.length≤60) (hm:(m.map (·.n)).Nodup) (hn:l.Nodup) (hw:∀ c∈l,Wf c) (he:Eqv l m):
  z5r (u4t std) (z1a (v3k no l),(z1a (v3k no m),(X,(z0p fl l,(z0p fl m,((0:Int),()))))))=some (.inr (X,(z0p fl l,(z0p fl m,())))):=by
 have hml:=he.1.length_eq
 have key:=y6h (b:=u4t std) l.length (fun (_:Unit) i=>(z1a (v3k no l),(z1a (v3k no m),(X,(z0p fl l,(z0p fl m,((i:Int),())))))))
  (fun _ _=>True) (fun r=>r= .inr (X,(z0p fl l,(z0p fl m,()))))
  (fun _ i hi _=> .inl ⟨(),by
   obtain ⟨c,hc⟩:=z1v hi
   obtain ⟨hw1,h0⟩:=stp i (by omega)
   have hcm:c∈m:=he.1.mem_iff.1 (eAu hc)
   obtain ⟨j,hj,hjc⟩:=eDi.1 hcm
   have hj':m[j]?=some c:=by rw [eAa hj,hjc]
   have ea:=v79 hc
   have eb:=v79 hj'
   obtain ⟨s1,_⟩:=split_at hc
   obtain ⟨s2,_⟩:=split_at hj'
   have hee:=v87 hw (fun c hc=>hw c (he.1.mem_iff.2 hc)) (v6n hn he) trivial s1 s2
   rw [←hee] at eb
   generalize errC (st (l.take i)) c=E at*
   have ra:=u3f ea
   have rb:=u3f eb
   have g43:=v62 (fl:=fl) m c.n (by omega)
   rw [v5c hm hj'] at g43
   have rc:=v43 (fl:=fl) hc
   have hle:(l.map (eC fl)).length=l.length:=by simp
   have la:((v3k no l).map eI).length=l.length:=by rw [eBt,z51]
   have lb:((v3k no m).map eI).length=l.length:=by rw [eBt,z51]; omega
   have k1:(i:Int)<(l.length:Int):=by omega
   have k2:(0:Int)≤(j:Int):=by omega
   have k3:(j:Int)<(l.length:Int):=by omega
   simp only [z0p] at g43
   simp only [u4t,z2d,z2e,z0p,z1a,z5s,y4y,z0p,z1a,y8q,w5s,z4b,Int.reduceLT,Int.reduceEq,Int.reduceLE,hc,ra,rb,rc,ea,eb,hle,la,lb,k1,k2,k3,h0,hw1,g43,eAp,if_true,if_false,eAi,ne_eq,not_true,not_false_eq_true],trivial⟩)
  (fun _ _=>⟨_,by
   have hno:¬ (l.length:Int)<(l.length:Int):=by omega
   have hle:(z0p fl l).length=l.length:=z2i l
   simp only [u4t,z2d,z2e,hno,hle,if_false],rfl⟩) () 0 (eAv _) trivial
 obtain ⟨r,h1,rfl⟩:=key
 exact h1
theorem u1y (l m:List Cd) (hl:l.length≤60) (h2:(l.map (·.n)).Nodup) (hn:l.Nodup) (he:Eqv l m):
  ∃ r,z5r (u2t std) (z0p fl' (z20 l),(z0p fl m,((0:Int),())))=some r∧(r= .inl (true,())∨r= .inr ()):=by
 have hml:=he.1.length_eq
 have hel:=(z28 hn)
 have hxl:=hel.1.length_eq
 have hi:=z24 h2
 have hle:=v7a hi hn he
 generalize z20 l=X at*
 refine y6h (b:=u2t std) l.length (fun (_:Unit) i=>(z0p fl' X,(z0p fl m,((i:Int),()))))
  (fun _ i=>X.take i=m.take i) (fun r=>r= .inl (true,())∨r= .inr ())
  (fun _ i hi' hI=>by
   obtain ⟨x,hx⟩:=z1v (show i<X.length by omega)
   obtain ⟨y,hy⟩:=z1v (show i<m.length by omega)
   obtain ⟨hw1,h0⟩:=stp i (by omega)
   obtain ⟨s1,_⟩:=split_at hx
   obtain ⟨s2,_⟩:=split_at hy
   have hxy:=hle (X.take i) x y (X.drop (i+1)) (m.drop (i+1)) s1 (by rw [hI]; exact s2)
   have rx:=v43 (fl:=fl') hx
   have ry:=v43 (fl:=fl) hy
   have lx:(X.map (eC fl')).length=l.length:=by simp; omega
   have k1:(i:Int)<(l.length:Int):=by omega
   by_cases e:x.n=y.n
   ·have exy:x=y:=hi x (hel.1.mem_iff.2 (eAu hx)) y (he.1.mem_iff.2 (eAu hy)) e
    left
    refine ⟨(),?_,?_⟩
    ·simp only [u2t,z2d,z2e,z0p,z1a,z5s,y4y,z0p,z1a,z4b,Int.reduceLT,Int.reduceEq,Int.reduceLE,x46,hx,hy,rx,ry,lx,k1,h0,hw1,e,eAp,if_true,if_false,eAi,ne_eq,not_true,not_false_eq_true]
    ·rw [eDo,eDo,hI,hx,hy,exy]
   ·right
    have lt:x.n<y.n:=by omega
    refine ⟨.inl (true,()),?_, .inl rfl⟩
    simp only [u2t,z2d,z2e,z0p,z1a,z5s,y4y,z0p,z1a,z4b,Int.reduceLT,Int.reduceEq,Int.reduceLE,x46,G16,hx,hy,rx,ry,lx,k1,h0,hw1,e,lt,eAp,if_true,if_false,eAi,ne_eq,not_true,not_false_eq_true])
  (fun _ _=>⟨.inr (),by
   have hno:¬ (l.length:Int)<(l.length:Int):=by omega
   have hle:(z0p fl' X).length=l.length:=by rw [z2i]; omega
   simp only [u2t,z2d,z2e,hno,hle,if_false], .inr rfl⟩) () 0 (eAv _) (by simp)
theorem v6g {l m:List Cd} (h:z4y l=0) (he:Eqv l m):v4n l m=0:=by
 obtain ⟨h1,h2,h3,h4,h5⟩:=z21 h
 have dm:=v3w h he.1.symm
 unfold v4n
 rw [if_neg (not_not_intro (v3l.2 ⟨h,dm⟩)),if_neg (not_not_intro he.1),if_pos (z85 (z24 h2) he)]
theorem v65 {l m:List Cd} (h:z4y l=0) (he:Eqv l m):v23 (z26 l)=v23 (z26 m):=by
 obtain ⟨h1,h2,h3,h4,h5⟩:=z21 h
 obtain ⟨m1,m2,m3,m4,m5⟩:=z21 (v3w h he.1.symm)
 exact v5f (v3h l h1 h4).2.1 (v3h m m1 m4).2.1 (by rw [(v3u l h4).2,(v3u m m4).2]; exact u3e h3 (fun c hc=>v7k (h4 c hc)) he)
theorem u9i (l:List Cd) (by':List Int) (hz:∀ z∈by',0≤z∧z≤255):G7 std (z0p fl l,(v5x by',()))=some (true,()):=by
 have g41:=u5l (fl:=fl) l
 unfold G7
 by_cases hf:u2s l=true
 ·have h:=v9c.1 hf
  rw [hf] at g41
  obtain ⟨h1,h2,h3,h4,h5⟩:=z21 h
  have hyl:(v5x by').length=by'.length:=v3g by'
  by_cases hb:200<by'.length
  ·have hb':(200:Int)<(by'.length:Int):=by omega
   simp only [z2d,z2e,z4b,Int.reduceLT,Int.reduceEq,Int.reduceLE,g41,hyl,hb',G16]
  ·have hb':¬ (200:Int)<(by'.length:Int):=by omega
   obtain ⟨m,he,g42⟩:=u5k (fl:=fl) l by' h1 (by omega) hz h3 (z59 h)
   have dm:=v3w h he.1.symm
   have hml:=he.1.length_eq
   obtain ⟨m1,m2,m3,m4,m5⟩:=z21 dm
   have hle:(z0p fl l).length=l.length:=z2i l
   have hme:(z0p fl m).length=l.length:=by rw [z2i]; omega
   have hmt:(z0p fl m).take l.length=z0p fl m:=List.take_of_length_le (by rw [hme]; omega)
   have tS:∀ E:List (List D),E.take E.length=E:=fun E=>eDf
   have a1:=u0s (fl:=fl) l (z59 h)
   have a2:=u0s (fl:=fl) m (z59 dm)
   have t1:=u0r (fl:=fl) l (z59 h)
   have t2:=u0r (fl:=fl) m (z59 dm)
   have r1:=u0q (fl:=fl) l (z59 h)
   have r2:=u0q (fl:=fl) m (z59 dm)
   have l1:=u0p (fl:=fl) l (z59 h)
   have l2:=u0p (fl:=fl) m (z59 dm)
   rw [h,if_pos rfl] at a1 t1 r1 l1
   rw [dm,if_pos rfl] at a2 t2 r2 l2
   rw [←v65 h he] at t2
   rw [←v68 he] at r2
   rw [←z85 (z24 h2) he] at l2
   have la:(z1a (v3k no l)).length=l.length:=by unfold z1a; rw [eBt,z51]
   have lb:(z1a (v3k no m)).length=l.length:=by unfold z1a; rw [eBt,z51]; omega
   have hlm:∀ c∈z20 l,c∈l:=fun c hc=>(z28 h3).1.mem_iff.2 hc
   have hll:(z20 l).length≤60:=by rw [←(z28 h3).1.length_eq]; exact h1
   have hfl:Few (z20 l):=fun c hc=>z59 h c (hlm c hc)
   have g34:=u5n (fl:=fun _=>false) (fl':=fun _=>false) (z20 l) (z20 l) (by omega) (fun c hc=>by have:=hfl c hc; omega)
   have hrl:(z25 l).length≤60:=by
    rw [v5g]
    exact eBf (v4q h3 (v80 l) l [] (by simp)) h1
   have g33:=u5o (fl:=tru) (fl':=tru) (z25 l) (z25 l) (by omega) (fun r hr=>by
    obtain ⟨k,_,rfl⟩:=eBb.1 hr
    have:=v8z l (u0y l) (k+1)
    omega)
   have g26:=u5p (v23 (z26 l)) (v23 (z26 l)) (by have:=v64 (v3h l h1 h4); omega)
   rw [decide_eq_true rfl] at g34 g33 g26
   have i1:=u1z (fl:=fl) l m (z0p (fun _=>false) (z20 l)) h1 m2 h3 (fun c hc=>v7k (h4 c hc)) he
   have s1:=u0o (fl:=fl) (fl':=fl) l m (z59 h) (z59 dm)
   have s2:=u0o (fl:=fl) (fl':=fun _=>false) l (z20 l) (z59 h) hfl
   have s3:=u5m (fl:=fl) (fl':=fun _=>false) l (z20 l) (z59 h) hfl
   rw [v6g h he] at s1
   rw [v6g h (z28 h3)] at s2 s3
   obtain ⟨r,i2,hr⟩:=u1y (fl:=fl) (fl':=fun _=>false) l m h1 h2 h3 he
   have z0:¬ (0:Int)≠0:=by omega
   rcases hr with rfl|rfl
   ·simp only [z2d,z2e,z4b,Int.reduceLT,Int.reduceEq,Int.reduceLE,x46,Sum.elim_inl,Sum.elim_inr,g41,hyl,hb',G16,g42,hmt,a1,a2,t1,t2,r1,r2,l1,l2,la,lb,hle,hme,tS,g26,g33,g34,i1,s1,s2,s3,i2,eAp,eAk,eDj,eDq,eAi,if_false,if_true,ne_eq,not_true,not_false_eq_true]
   ·simp only [z2d,z2e,z4b,Int.reduceLT,Int.reduceEq,Int.reduceLE,x46,Sum.elim_inl,Sum.elim_inr,g41,hyl,hb',G16,g42,hmt,a1,a2,t1,t2,r1,r2,l1,l2,la,lb,hle,hme,tS,g26,g33,g34,i1,s1,s2,s3,i2,eAp,eAk,eDj,eDq,eAi,if_false,if_true,ne_eq,not_true,not_false_eq_true]
 ·have hf:u2s l=false:=by simpa using hf
  rw [hf] at g41
  simp only [z2d,z2e,z4b,Int.reduceLT,Int.reduceEq,Int.reduceLE,g41,G16]
end Go.Am
end
