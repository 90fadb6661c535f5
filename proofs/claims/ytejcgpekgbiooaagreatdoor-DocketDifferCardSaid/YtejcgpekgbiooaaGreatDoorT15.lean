/- Texts of this claim. -/
import Derived.Test.YtejcgpekgbiooaaGreatDoorT14
import Derived.Test.YtejcgpekgbiooaaGreatDoorProg
import Derived.KernelRfl
set_option linter.unusedVariables false
set_option linter.unusedSimpArgs false
set_option linter.unusedSectionVars false
set_option maxRecDepth 100000
set_option maxHeartbeats 0
open List renaming mem_cons_of_mem → eCm,mem_cons_self → eBq,mem_cons → eAz,length_cons → eBi,ext_getElem? → eBd,getElem?_map → eAg,take_length → eDi,nil_append → eDd,drop_zero → eDb,getElem?_eq_some_iff → eAd,drop_drop → eCw,mem_map → eBb,any_eq_true → eCz,map_append → eDh,idxOf_lt_length_of_mem → eDs,length_map → eBt,getElem?_eq_getElem → eAa,getElem_mem → eCp,getElem_idxOf → eDq,mem_of_getElem? → eAu,getD_eq_getElem?_getD → eCi,getElem?_replicate → eCf,foldl_cons → eDt,mem_of_getLast? → eDe,mem_append_left → eDv,mem_append → eBj,mem_singleton → eBe,mem_iff_getElem → eDj,mem_filter → eDa,append_assoc → eCg,length_eq_zero_iff → eBn,length_nil → eDc,append_nil → eCn,length_take → eBv,take_of_length_le → eDf,getElem?_range → eDo,getElem?_append_left → eBz,getElem?_append_right → eCv,getElem?_eq_none → eCt,length_append → eBu,take_succ_cons → eDg,take_zero → eDp,getElem?_cons_zero → eCo
open Nat renaming pow_lt_pow_right → eDu,lt_of_lt_of_le → eAn,mod_eq_of_lt → eCy,sub_self → eDm,sub_zero → eDr,zero_add → eAp,le_refl → eAk,add_zero → eAt,zero_le → eAv,lt_or_ge → eBw,le_trans → eBf,mod_lt → eCr
open Option renaming map_some → eBh,getD_some → eBk
open Bool renaming and_self → eDn,and_true → eCc,eq_iff_iff → eCu,false_eq_true → eAi,and_eq_true → eAb,not_eq_true' → eBy,not_false → eCq
open Int renaming toNat_natCast → eCh
open Go.Proofs.Tryz renaming prog → PG
section
namespace Go.Am
open Go Go.RowKit Go.Proofs D12
theorem v8o {n:Int} (h:(Lit.int IntKind.u8 n).wf=true):0≤n∧n≤255:=by
 simp only [Lit.wf,IntKind.min,IntKind.max,IntKind.signed,IntKind.bits] at h
 simp at h
 omega
theorem v93 {x:D} (h:DK (.int .u8) x):∃ n:Int,x= .int .u8 n∧0≤n∧n≤255:=by
 obtain ⟨n,rfl,hn⟩:=x34 h
 exact ⟨n,rfl,v8o hn⟩
theorem v61 {x:D} (h:DK (.list [.int .u8]) x):∃ l:List Int,x= .list false 1 (v3k l)∧(∀ z∈l,0≤z∧z≤255)∧l.length≤maxLen:=by
 match x,h with
 | .list f z es,h=>
  obtain ⟨rfl,rfl,hl,hr⟩:=h
  rw [z9j] at hr
  have:∃ l:List Int,es=v3k l∧∀ z∈l,0≤z∧z≤255:=by
   clear hl
   induction es with
   |nil=>exact ⟨[],rfl,fun z h=>by cases h⟩
   |cons r es ih=>
    obtain ⟨l,rfl,hw⟩:=ih fun r hr'=>hr r (eCm _ hr')
    have h0:=hr r (eBq ..)
    match r,h0 with
    |[y],h0=>
     obtain ⟨a,rfl,ha⟩:=v93 h0.1
     refine ⟨a::l,rfl,fun z hz=>?_⟩
     rcases eAz.1 hz with rfl|hz
     ·exact ha
     ·exact hw z hz
  obtain ⟨l,rfl,hw⟩:=this
  exact ⟨l,rfl,hw,by simpa [v3k] using hl⟩
end Go.Am
end
noncomputable section
namespace Go.Am
theorem u0h:GamOk PG (v05):=by
 intro cf h
 simp only [v05,eAz,List.not_mem_nil,or_false] at h
 rcases h with rfl|rfl
 ·exact w66
 ·exact w4e
def F19:Prim→Tup (w8g).scs→Option (STup (scss (w8g).outs)):=
 fun p x=>G19 p x
def v83:Ctr:=
 ⟨78,[.list 4, .list 4],[],[(.ret,⟨[(0, .int .i64)],[],1⟩)]⟩
def la78:List LA:=
 []
def ja78:List JA:=
 []
def u0l:List CF:=
 [⟨w8g,F19⟩]
def an78:Anns:=
 ⟨u0l,ja78,[]⟩
def G78:(p:Prim)→W21w→Option (W16w):=
 fun p x=>
 opt.bnd (W16w) _ (G19 p (x.1,())) fun a=>
 opt.ask _ (p.cmp .neq a.1 (0:Int)) (
 opt.ret _ a) (
 opt.bnd (W16w) _ (G19 p x.2) fun b=>
 opt.ret _ b)
theorem ok78:CtrOk PG v83 (G78 std):=okF vE (a:=an78) (l:=la78) (gC v2d (gN))
end Go.Am
end
noncomputable section
namespace Go.Am
def v7k:Ctr:=
 ⟨117,[.list 1],[],[(.ret,⟨[(0, .list 1)],[],1⟩)]⟩
def u0d:List LA:=
 []
def u0g:List JA:=
 []
def v80:List CF:=
 []
def u1e:Anns:=
 ⟨v80,u0g,[]⟩
def v9y:(p:Prim)→W12w→Option (W12w):=
 fun p x=>let A:=p.add 0 (p.len x.1);let B:=p.leN (p.add 0 0) (p.len []);let C:=p.splice [] (p.add 0 0) x.1;let E:=p.app (p.cut [] 0 0) x.1;
 opt.need _ (p.leN 1 (p.len x.1))<|
 opt.ask _ (p.leN A 0) (
 opt.need _ (p.and Bool.true (p.and B B))<|
 opt.need _ (p.leN (p.add 0 A) (p.len C))<|
 opt.ret _ ((p.cut C 0 A),())) (
 opt.need _ (p.and Bool.true (p.and B (p.and (p.leN 1 (p.len x.1)) (p.leN A 1000000))))<|
 opt.need _ (p.leN (p.add 0 A) (p.len E))<|
 opt.ret _ ((p.cut E 0 A),()))
theorem u0a:CtrOk PG v7k (v9y std):=okF vE (a:=u1e) (l:=u0d) (gN)
end Go.Am
end
noncomputable section
namespace Go.Am
def v72:Ctr:=
 ⟨72,[.agg [.int .u64, .int .u64], .int .i64],[],[(.ret,⟨[(0, .agg [.int .u64, .int .u64])],[],1⟩)]⟩
def la72:List LA:=
 []
def ja72:List JA:=
 []
def u0q:List CF:=
 []
def an72:Anns:=
 ⟨u0q,ja72,[]⟩
def G72:(p:Prim)→(Int×W2w)→Option (W2w):=
 fun p x=>let G:=(1:Int);let E:=(0:Int);let A:=bif (p.cmp .geq G E) then (p.cmp .lss G (p.ofNat 2)) else Bool.false;let B:=bif (p.cmp .geq E E) then (p.cmp .lss E (p.ofNat 2)) else Bool.false;let F:=p.ar .rem .i64 x.2.2.1 (64:Int);let C:=p.ar .shl .u64 G F;let H:=p.cmp .neq (64:Int) E;let I:=p.ar .quo .i64 x.2.2.1 (64:Int);let J:=p.ar .or .u64 x.2.1 C;
 opt.need _ H<|
 opt.ask _ (p.cmp .eql I E) (
 opt.need _ B<|
 opt.need _ H<|
 opt.need _ (p.cmp .geq F E)<|
 opt.ask _ (p.cmp .eql E E) (
 opt.need _ B<|
 opt.ret _ ((p.ar .or .u64 x.1 C),(x.2.1,()))) (
 opt.need _ (p.cmp .eql E G)<|
 opt.need _ A<|
 opt.ret _ (x.1,((p.ar .or .u64 x.1 C),())))) (
 opt.need _ (p.cmp .eql I G)<|
 opt.need _ A<|
 opt.need _ H<|
 opt.need _ (p.cmp .geq F E)<|
 opt.ask _ (p.cmp .eql G E) (
 opt.need _ B<|
 opt.ret _ (J,(x.2.1,()))) (
 opt.need _ (p.cmp .eql G G)<|
 opt.need _ A<|
 opt.ret _ (x.1,(J,()))))
theorem u1l:CtrOk PG v72 (G72 std):=okF vE (a:=an72) (l:=la72) (gN)
def v87:Ctr:=
 ⟨74,[.agg [.int .u64, .int .u64], .int .i64],[],[(.ret,⟨[(0, .bool)],[],1⟩)]⟩
def la74:List LA:=
 []
def ja74:List JA:=
 [⟨74,[fF,tT],0,[(AX.normal,⟨[(4, .bool)],[],14⟩)]⟩]
def u0p:List CF:=
 []
def an74:Anns:=
 ⟨u0p,ja74,[]⟩
def G74:(p:Prim)→(Int×W2w)→Option (W4w):=
 fun p x=>let A:=p.ar .rem .i64 x.2.2.1 (64:Int);let B:=(0:Int);let C:=p.cmp .neq (64:Int) B;let E:=(1:Int);let F:=p.ar .quo .i64 x.2.2.1 (64:Int);
 opt.bnd (W4w) _ (
 opt.run (W4w) (
 opt.need _ C<|
 opt.ask _ (p.cmp .eql F B) (
 opt.need _ (bif (p.cmp .geq B B) then (p.cmp .lss B (p.ofNat 2)) else Bool.false)<|
 opt.need _ C<|
 opt.need _ (p.cmp .geq A B)<|
 opt.ret _ ((p.cmp .eql (p.ar .and .u64 (p.ar .shr .u64 x.1 A) E) E),())) (
 opt.need _ (p.cmp .eql F E)<|
 opt.need _ (bif (p.cmp .geq E B) then (p.cmp .lss E (p.ofNat 2)) else Bool.false)<|
 opt.need _ C<|
 opt.need _ (p.cmp .geq A B)<|
 opt.ret _ ((p.cmp .eql (p.ar .and .u64 (p.ar .shr .u64 x.2.1 A) E) E),())))) fun a=>
 opt.ret _ a
theorem ok74:CtrOk PG v87 (G74 std):=okF vE (a:=an74) (l:=la74) (gN)
def v7i:Ctr:=
 ⟨132,[.agg [.int .u64, .int .u64], .agg [.int .u64, .int .u64]],[],[(.ret,⟨[(0, .agg [.int .u64, .int .u64])],[],1⟩)]⟩
def u0b:List LA:=
 [⟨132,[fF,tT,fF,tT],0,⟨⟨[(2, .bptr 0 0),(3, .bptr 1 0),(4, .bptr 2 0),(6, .int .i64)],[q6m,q6m,q6m],19⟩,[((AX.exit 0),⟨[(2, .bptr 0 0),(4, .bptr 1 0)],[q6m,q6m],19⟩)]⟩⟩]
def u0e:List JA:=
 [⟨132,[fF,tT,tT,fF,fF,tT,fF,tT],0,[(AX.normal,⟨[(2, .bptr 0 0),(3, .bptr 1 0),(4, .bptr 2 0),(6, .int .i64)],[q6m,q6m,q6m],19⟩)]⟩]
def v8y:List CF:=
 []
def u1c:Anns:=
 ⟨v8y,u0e,[]⟩
def v44 (p:Prim):W11w→Option (W11w⊕W23w):=
 fun a=>let E:=(1:Int);let C:=(0:Int);let A:=bif (p.cmp .geq E C) then (p.cmp .lss E (p.ofNat 2)) else Bool.false;let B:=bif (p.cmp .geq C C) then (p.cmp .lss C (p.ofNat 2)) else Bool.false;let F:=a.2.2.2.2.2.2.1;let G:=p.ar .and .u64 a.2.1 a.2.2.2.1;let H:=p.cmp .eql F E;let I:=p.cmp .eql F C;let J:=p.ar .and .u64 a.2.1 a.2.2.1;let K:=p.ar .and .u64 a.1 a.2.2.2.1;let L:=p.ar .and .u64 a.1 a.2.2.1; opt.run _ (
 opt.ask _ (p.cmp .lss F (2:Int)) (
 opt.bnd (W11w) _ (
 opt.run (W11w) (
 opt.ask _ I (
 opt.need _ B<|
 opt.ask _ I (
 opt.need _ B<|
 opt.ask _ (p.cmp .eql C C) (
 opt.need _ B<|
 opt.ret _ (L,a.2)) (
 opt.need _ (p.cmp .eql C E)<|
 opt.need _ A<|
 opt.ret _ (a.1,(L,a.2.2)))) (
 opt.need _ H<|
 opt.need _ A<|
 opt.ask _ (p.cmp .eql C C) (
 opt.need _ B<|
 opt.ret _ (K,a.2)) (
 opt.need _ (p.cmp .eql C E)<|
 opt.need _ A<|
 opt.ret _ (a.1,(K,a.2.2))))) (
 opt.need _ H<|
 opt.need _ A<|
 opt.ask _ I (
 opt.need _ B<|
 opt.ask _ (p.cmp .eql E C) (
 opt.need _ B<|
 opt.ret _ (J,a.2)) (
 opt.need _ (p.cmp .eql E E)<|
 opt.need _ A<|
 opt.ret _ (a.1,(J,a.2.2)))) (
 opt.need _ H<|
 opt.need _ A<|
 opt.ask _ (p.cmp .eql E C) (
 opt.need _ B<|
 opt.ret _ (G,a.2)) (
 opt.need _ (p.cmp .eql E E)<|
 opt.need _ A<|
 opt.ret _ (a.1,(G,a.2.2))))))) fun b=>
 opt.ret _ (Sum.inl (b.1,(b.2.1,(b.2.2.1,(b.2.2.2.1,(b.2.2.2.2.1,(b.2.2.2.2.2.1,((p.ar .add .i64 b.2.2.2.2.2.2.1 E),()))))))))) (
 opt.ret _ (Sum.inr (a.1,(a.2.1,(a.2.2.2.2.1,(a.2.2.2.2.2.1,())))))))
def v9x:(p:Prim)→W23w→Option (W2w):=
 fun p x=>
 opt.bnd (W23w) _ (
 z5r (v44 p) (x.1,(x.2.1,(x.2.2.1,(x.2.2.2.1,((0:Int),((0:Int),((0:Int),())))))))) fun a=>
 opt.ret _ (a.1,(a.2.1,()))
theorem v98:CtrOk PG v7i (v9x std):=okF vE (a:=u1c) (l:=u0b) (gN)
def v86:Ctr:=
 ⟨75,[.agg [.int .i64, .int .i64, .list 1, .int .i64]],[],[(.ret,⟨[(0, .agg [.int .i64, .int .i64, .list 1, .int .i64])],[],1⟩)]⟩
def la75:List LA:=
 []
def ja75:List JA:=
 []
def u0o:List CF:=
 [⟨v7k,v9y⟩]
def an75:Anns:=
 ⟨u0o,ja75,[]⟩
def G75:(p:Prim)→W26w→Option (W26w):=
 fun p x=>
 opt.bnd (W12w) _ (v9y p (x.2.2.1,())) fun a=>
 opt.ret _ (x.1,(x.2.1,(a.1,x.2.2.2)))
theorem ok75:CtrOk PG v86 (G75 std):=okF vE (a:=an75) (l:=la75) (gC u0a (gN))
end Go.Am
end
noncomputable section
namespace Go.Am
def v74:Ctr:=
 ⟨66,[.list 1],[],[(.ret,⟨[(0, .bptr 0 0)],q11m,1⟩)]⟩
def la66:List LA:=
 [⟨66,[fF,tT,fF,tT,tT],0,⟨⟨[(0, .list 1),(3, .bptr 0 0),(23, .list 1),(24, .int .i64),(25, .int .i64)],[.box [.sl 2 4, .map 1, .nils], .map,q4m],146⟩,[((AX.exit 0),⟨[(0, .list 1),(3, .bptr 0 0)],q12m,146⟩)]⟩⟩,
 ⟨66,[fF,tT,tT,fF,fF,tT,tT,fF,fF,tT,fF,tT,tT],0,⟨⟨[(0, .list 1),(3, .bptr 0 0),(23, .list 1),(24, .int .i64),(25, .int .i64),(29, .list 4),(30, .int .i64),(31, .int .i64)],q12m,146⟩,[((AX.exit 2),⟨[(0, .list 1),(3, .bptr 0 0),(23, .list 1),(24, .int .i64),(25, .int .i64)],q12m,146⟩)]⟩⟩,
 ⟨66,[fF,tT,fF,tT,tT,tT,tT],0,⟨⟨[(3, .bptr 0 0),(90, .list 1),(91, .int .i64),(92, .int .i64)],q11m,146⟩,[((AX.exit 4),⟨[(3, .bptr 0 0)],q11m,146⟩)]⟩⟩,
 ⟨66,[fF,tT,tT,tT,fF,fF,tT,tT,fF,fF,tT,fF,tT,tT,tT,tT],0,⟨⟨[(3, .bptr 0 0),(12, .map 1),(90, .list 1),(91, .int .i64),(92, .int .i64),(97, .list 4),(98, .int .i64),(99, .int .i64)],q10m,146⟩,[((AX.exit 6),⟨[(3, .bptr 0 0),(90, .list 1),(91, .int .i64),(92, .int .i64)],q11m,146⟩)]⟩⟩,
 ⟨66,[fF,tT,tT,tT,fF,fF,tT,tT,fF,fF,tT,tT,tT,fF,fF,tT,tT,fF,fF,tT,fF,tT,tT,tT,tT],0,⟨⟨[(3, .bptr 0 0),(12, .map 1),(15, .int .i64),(90, .list 1),(91, .int .i64),(92, .int .i64),(97, .list 4),(98, .int .i64),(99, .int .i64),(111, .list 1),(112, .int .i64),(113, .int .i64)],q10m,146⟩,[((AX.exit 8),⟨[(3, .bptr 0 0),(12, .map 1),(90, .list 1),(91, .int .i64),(92, .int .i64),(97, .list 4),(98, .int .i64),(99, .int .i64)],q10m,146⟩)]⟩⟩]
def ja66:List JA:=
 [⟨66,[fF,tT,tT,fF,fF,tT,tT,tT,fF,fF,tT,tT,fF,fF,tT,fF,tT,tT,tT,tT],0,[(AX.normal,⟨[(3, .bptr 0 0),(12, .map 1),(90, .list 1),(91, .int .i64),(92, .int .i64),(97, .list 4),(98, .int .i64),(99, .int .i64)],q10m,146⟩)]⟩,
 ⟨66,[fF,tT,tT,fF,fF,tT,tT,tT,fF,fF,tT,tT,fF,fF,tT,tT,tT,fF,fF,tT,tT,fF,fF,tT,fF,tT,tT,tT,tT],0,[(AX.normal,⟨[(3, .bptr 0 0),(12, .map 1),(15, .int .i64),(90, .list 1),(91, .int .i64),(92, .int .i64),(97, .list 4),(98, .int .i64),(99, .int .i64),(111, .list 1),(112, .int .i64),(113, .int .i64)],q10m,146⟩)]⟩,
 ⟨66,[fF,tT,tT,fF,fF,tT,tT,fF,fF,tT,tT,fF,fF,tT,fF,tT,tT],0,[(AX.normal,⟨[(0, .list 1),(3, .bptr 0 0),(23, .list 1),(24, .int .i64),(25, .int .i64),(29, .list 4),(30, .int .i64),(31, .int .i64)],q12m,146⟩)]⟩,
 ⟨66,[tT,tT,tT,fF,fF,tT,tT,fF,fF,tT,tT,fF,fF,tT,tT,fF,fF,tT,fF,tT,tT],0,[(AX.normal,⟨[(0, .list 1),(3, .bptr 0 0),(23, .list 1),(24, .int .i64),(25, .int .i64),(29, .list 4),(30, .int .i64),(31, .int .i64)],q12m,146⟩)]⟩]
def u0s:List CF:=
 [⟨v72,G72⟩]
def an66:Anns:=
 ⟨u0s,ja66,[]⟩
def u1b (p:Prim):W3w→Option (W3w⊕W5w):=
 fun a=>let S:=a.2.2.2.2.2.2.2.2.2.2.2.2.2.1;let F:=a.2.2.2.2.2.2.2.2.2.2.2.2.2.2.2.1;let A:=D.int .i64 (p.rdI S (p.nat F) 0);let Q:=a.2.2.2.1;let E:=a.2.2.2.2.2.2.1;let M:=p.add 0 (p.nat E);let C:=p.len Q;let G:=p.mOk a.1 [SK.i] Bool.false A Bool.false [ci];let H:=p.mset a.1 (p.nat (p.ofNat (p.mpos a.1 [SK.i] Bool.false A))) A (D.int .i64 E);let I:=bif (p.cmp .geq E (0:Int)) then (p.cmp .lss E (p.ofNat C)) else Bool.false;let J:=p.rowOk Q M [(CK.int .u64),(CK.int .u64)];let K:=p.mhas a.1 [SK.i] Bool.false A;let O:=p.eqN C C;let P:=p.eqN 0 0;let T:=p.madd a.1 A (D.int .i64 E); opt.run _ (
 opt.ask _ (p.cmp .lss F a.2.2.2.2.2.2.2.2.2.2.2.2.2.2.1) (
 opt.bnd (W3w) _ (
 opt.run (W3w) (
 opt.need _ (p.rowOk S (p.nat F) [ci])<|
 opt.need _ (p.cmp .geq F (0:Int))<|
 opt.need _ G<|
 opt.ask _ K (
 opt.need _ I<|
 opt.need _ J<|
 opt.bnd (W2w) _ (G72 p ((p.rdI Q M 0),((p.rdI Q M 1),((p.mI a.1 [SK.i] Bool.false A 0),())))) fun b=>let B:=p.set Q M [(D.int .u64 b.1),(D.int .u64 b.2.1)];let L:=p.eqN C (p.len B);let R:=(a.2.1,(a.2.2.1,(B,a.2.2.2.2)));
 opt.need _ I<|
 opt.need _ J<|
 opt.need _ G<|
 opt.ask _ K (
 opt.need _ P<|
 opt.need _ L<|
 opt.need _ L<|
 opt.ret _ (H,R)) (
 opt.need _ P<|
 opt.need _ L<|
 opt.need _ L<|
 opt.ret _ (T,R))) (
 opt.need _ G<|
 opt.ask _ K (
 opt.need _ P<|
 opt.need _ O<|
 opt.need _ O<|
 opt.ret _ (H,a.2)) (
 opt.need _ P<|
 opt.need _ O<|
 opt.need _ O<|
 opt.ret _ (T,a.2))))) fun c=>let N:=p.len c.2.2.2.1;
 opt.need _ P<|
 opt.need _ (p.eqN N N)<|
 opt.need _ (p.eqN N N)<|
 opt.ret _ (Sum.inl (c.1,(c.2.1,(c.2.2.1,(c.2.2.2.1,(c.2.2.2.2.1,(c.2.2.2.2.2.1,(c.2.2.2.2.2.2.1,(c.2.2.2.2.2.2.2.1,(c.2.2.2.2.2.2.2.2.1,(c.2.2.2.2.2.2.2.2.2.1,(c.2.2.2.2.2.2.2.2.2.2.1,(c.2.2.2.2.2.2.2.2.2.2.2.1,(c.2.2.2.2.2.2.2.2.2.2.2.2.1,(c.2.2.2.2.2.2.2.2.2.2.2.2.2.1,(c.2.2.2.2.2.2.2.2.2.2.2.2.2.2.1,((p.ar .add .i64 c.2.2.2.2.2.2.2.2.2.2.2.2.2.2.2.1 (1:Int)),())))))))))))))))))) (
 opt.need _ P<|
 opt.need _ O<|
 opt.need _ O<|
 opt.ret _ (Sum.inr (a.1,(a.2.1,(a.2.2.1,(Q,(a.2.2.2.2.1,(a.2.2.2.2.2.1,(a.2.2.2.2.2.2.2.1,(a.2.2.2.2.2.2.2.2.1,(a.2.2.2.2.2.2.2.2.2.1,(a.2.2.2.2.2.2.2.2.2.2.1,(a.2.2.2.2.2.2.2.2.2.2.2.1,(a.2.2.2.2.2.2.2.2.2.2.2.2.1,())))))))))))))))
def v5l (p:Prim):W3w→Option (W3w⊕W5w):=
 fun a=>let S:=a.2.2.2.2.2.2.2.2.2.2.2.2.2.1;let F:=a.2.2.2.2.2.2.2.2.2.2.2.2.2.2.2.1;let A:=D.int .i64 (p.rdI S (p.nat F) 0);let Q:=a.2.2.2.1;let E:=a.2.2.2.2.2.2.1;let M:=p.add 0 (p.nat E);let C:=p.len Q;let G:=p.mOk a.1 [SK.i] Bool.false A Bool.false [ci];let H:=p.mset a.1 (p.nat (p.ofNat (p.mpos a.1 [SK.i] Bool.false A))) A (D.int .i64 E);let I:=bif (p.cmp .geq E (0:Int)) then (p.cmp .lss E (p.ofNat C)) else Bool.false;let J:=p.rowOk Q M [(CK.int .u64),(CK.int .u64)];let K:=p.mhas a.1 [SK.i] Bool.false A;let O:=p.eqN C C;let P:=p.eqN 0 0;let T:=p.madd a.1 A (D.int .i64 E); opt.run _ (
 opt.ask _ (p.cmp .lss F a.2.2.2.2.2.2.2.2.2.2.2.2.2.2.1) (
 opt.bnd (W3w) _ (
 opt.run (W3w) (
 opt.need _ (p.rowOk S (p.nat F) [ci])<|
 opt.need _ (p.cmp .geq F (0:Int))<|
 opt.need _ G<|
 opt.ask _ K (
 opt.need _ I<|
 opt.need _ J<|
 opt.bnd (W2w) _ (G72 p ((p.rdI Q M 0),((p.rdI Q M 1),((p.mI a.1 [SK.i] Bool.false A 0),())))) fun b=>let B:=p.set Q M [(D.int .u64 b.1),(D.int .u64 b.2.1)];let L:=p.eqN C (p.len B);let R:=(a.2.1,(a.2.2.1,(B,a.2.2.2.2)));
 opt.need _ I<|
 opt.need _ J<|
 opt.need _ G<|
 opt.ask _ K (
 opt.need _ P<|
 opt.need _ L<|
 opt.need _ L<|
 opt.ret _ (H,R)) (
 opt.need _ P<|
 opt.need _ L<|
 opt.need _ L<|
 opt.ret _ (T,R))) (
 opt.need _ G<|
 opt.ask _ K (
 opt.need _ P<|
 opt.need _ O<|
 opt.need _ O<|
 opt.ret _ (H,a.2)) (
 opt.need _ P<|
 opt.need _ O<|
 opt.need _ O<|
 opt.ret _ (T,a.2))))) fun c=>let N:=p.len c.2.2.2.1;
 opt.need _ P<|
 opt.need _ (p.eqN N N)<|
 opt.need _ (p.eqN N N)<|
 opt.ret _ (Sum.inl (c.1,(c.2.1,(c.2.2.1,(c.2.2.2.1,(c.2.2.2.2.1,(c.2.2.2.2.2.1,(c.2.2.2.2.2.2.1,(c.2.2.2.2.2.2.2.1,(c.2.2.2.2.2.2.2.2.1,(c.2.2.2.2.2.2.2.2.2.1,(c.2.2.2.2.2.2.2.2.2.2.1,(c.2.2.2.2.2.2.2.2.2.2.2.1,(c.2.2.2.2.2.2.2.2.2.2.2.2.1,(c.2.2.2.2.2.2.2.2.2.2.2.2.2.1,(c.2.2.2.2.2.2.2.2.2.2.2.2.2.2.1,((p.ar .add .i64 c.2.2.2.2.2.2.2.2.2.2.2.2.2.2.2.1 (1:Int)),())))))))))))))))))) (
 opt.need _ P<|
 opt.need _ O<|
 opt.need _ O<|
 opt.ret _ (Sum.inr (a.1,(a.2.1,(a.2.2.1,(Q,(a.2.2.2.2.1,(a.2.2.2.2.2.1,(a.2.2.2.2.2.2.2.1,(a.2.2.2.2.2.2.2.2.1,(a.2.2.2.2.2.2.2.2.2.1,(a.2.2.2.2.2.2.2.2.2.2.1,(a.2.2.2.2.2.2.2.2.2.2.2.1,(a.2.2.2.2.2.2.2.2.2.2.2.2.1,())))))))))))))))
def v6j (p:Prim):W5w→Option (W5w⊕W15w):=
 fun a=>let E:=a.2.2.2.2.2.2.2.2.2.1;let N:=a.2.2.2.2.2.2.2.2.2.2.1;let C:=a.2.2.2.2.2.2.2.2.2.2.2.1;let O:=p.nat C;let A:=(a.2.2.2.2.2.2.1,(a.2.2.2.2.2.2.2.1,(a.2.2.2.2.2.2.2.2.1,(E,(N,(C,((p.rdL E O 2),((p.ofNat (p.len (p.rdL E O 2))),((0:Int),())))))))));let K:=a.2.2.2.1;let B:=p.eqN (p.len K) (p.len K);let F:=D.int .i64 (p.rdI E O 0);let J:=p.eqN 0 0;let L:=a.2.2.1;let M:=a.2.2.2.2.2.1; opt.run _ (
 opt.ask _ (p.cmp .lss C N) (
 opt.bnd (W5w) _ (
 opt.run (W5w) (
 opt.need _ (p.rowOk E O [ci,ci,(CK.list 1),ci])<|
 opt.need _ (p.cmp .geq C (0:Int))<|
 opt.need _ (p.mOk L [SK.i] Bool.false F Bool.false [ci])<|
 opt.ask _ (p.mhas L [SK.i] Bool.false F) (
 opt.need _ J<|
 opt.need _ B<|
 opt.need _ B<|
 opt.bnd (W5w) _ (
 z5r (v5l p) (a.1,(a.2.1,(L,(K,(a.2.2.2.2.1,(M,((p.mI L [SK.i] Bool.false F 0),A)))))))) fun b=>let I:=p.len b.2.2.2.1;
 opt.need _ J<|
 opt.need _ (p.eqN I I)<|
 opt.need _ (p.eqN I I)<|
 opt.ret _ b) (
 opt.need _ J<|
 opt.need _ B<|
 opt.need _ B<|
 opt.bnd (W5w) _ (
 z5r (u1b p) (a.1,(a.2.1,(L,(K,(a.2.2.2.2.1,(M,((0:Int),A)))))))) fun c=>let H:=p.len c.2.2.2.1;
 opt.need _ J<|
 opt.need _ (p.eqN H H)<|
 opt.need _ (p.eqN H H)<|
 opt.ret _ c))) fun d=>let G:=p.len d.2.2.2.1;
 opt.need _ J<|
 opt.need _ (p.eqN G G)<|
 opt.need _ (p.eqN G G)<|
 opt.ret _ (Sum.inl (d.1,(d.2.1,(d.2.2.1,(d.2.2.2.1,(d.2.2.2.2.1,(d.2.2.2.2.2.1,(d.2.2.2.2.2.2.1,(d.2.2.2.2.2.2.2.1,(d.2.2.2.2.2.2.2.2.1,(d.2.2.2.2.2.2.2.2.2.1,(d.2.2.2.2.2.2.2.2.2.2.1,((p.ar .add .i64 d.2.2.2.2.2.2.2.2.2.2.2.1 (1:Int)),())))))))))))))) (
 opt.need _ J<|
 opt.need _ B<|
 opt.need _ B<|
 opt.ret _ (Sum.inr (a.2.1,(L,(K,(a.2.2.2.2.1,(M,(a.2.2.2.2.2.2.1,(a.2.2.2.2.2.2.2.1,(a.2.2.2.2.2.2.2.2.1,())))))))))))
def v6k (p:Prim):W15w→Option (W15w⊕W9w):=
 fun a=>let A:=p.eqN (p.len a.2.2.1) (p.len a.2.2.1);let B:=a.2.2.2.2.2.2.2.1;let E:=a.2.2.2.2.2.1; opt.run _ (
 opt.ask _ (p.cmp .lss B a.2.2.2.2.2.2.1) (
 opt.need _ (p.rowOk E (p.nat B) [(CK.list 4)])<|
 opt.need _ (p.cmp .geq B (0:Int))<|
 opt.need _ (p.eqN 0 0)<|
 opt.need _ A<|
 opt.need _ A<|
 opt.bnd (W15w) _ (
 z5r (v6j p) ([],(a.1,(a.2.1,(a.2.2.1,(a.2.2.2.1,(a.2.2.2.2.1,(E,(a.2.2.2.2.2.2.1,(B,((p.rdL E (p.nat B) 0),((p.ofNat (p.len (p.rdL E (p.nat B) 0))),((0:Int),()))))))))))))) fun b=>let C:=p.len b.2.2.1;
 opt.need _ (p.eqN 0 0)<|
 opt.need _ (p.eqN C C)<|
 opt.need _ (p.eqN C C)<|
 opt.ret _ (Sum.inl (b.1,(b.2.1,(b.2.2.1,(b.2.2.2.1,(b.2.2.2.2.1,(b.2.2.2.2.2.1,(b.2.2.2.2.2.2.1,((p.ar .add .i64 b.2.2.2.2.2.2.2.1 (1:Int)),())))))))))) (
 opt.need _ (p.eqN 0 0)<|
 opt.need _ A<|
 opt.need _ A<|
 opt.ret _ (Sum.inr (a.1,(a.2.1,(a.2.2.1,(a.2.2.2.1,(a.2.2.2.2.1,()))))))))
def v5m (p:Prim):W7w→Option (W7w⊕(LD×(List (W22w)×W32w))):=
 fun a=>let L:=a.2.2.2.2.2.2.2.2.1;let G:=a.2.2.2.2.2.2.2.2.2.2.1;let Q:=p.nat G;let C:=D.int .i64 (p.rdI L Q 0);let A:=[[C,(D.int .i64 (p.rdI L Q 1)),(D.list (p.rdF L Q 2 1) 1 (p.rdL L Q 2)),(D.int .i64 (p.rdI L Q 3))]];let F:=p.ofNat a.2.2.2.1;let S:=(0:Int);let B:=p.sub (p.nat F) (p.nat S);let E:=p.add a.2.2.1 (p.nat S);let H:=p.leN (p.add E B) (p.len a.1);let I:=p.splice a.1 (p.add E B) (p.cut A 0 1);let J:=p.and (p.cmp .geq S S) (p.and (p.cmp .leq S F) (p.and (p.cmp .leq F F) (p.cmp .leq F F)));let X:=p.leN (p.add 0 1) (p.len A);let Y:=p.add B 1;let K:=p.and X (p.and H (p.and (p.leN 1 1) (p.leN Y 1000000)));let M:=p.mset a.2.1 (p.nat (p.ofNat (p.mpos a.2.1 [SK.i] Bool.false C))) C (D.int .i64 F);let N:=p.and X (p.and H (p.and (p.leN 1 1) H));let O:=(Y,a.2.2.2.2);let P:=p.mOk a.2.1 [SK.i] Bool.false C Bool.false [ci];let R:=p.app (p.cut a.1 E B) (p.cut A 0 1);let T:=p.mhas a.2.1 [SK.i] Bool.false C;let U:=p.madd a.2.1 C (D.int .i64 F);let V:=p.leN (p.add E B) (p.len I); opt.run _ (
 opt.ask _ (p.cmp .lss G a.2.2.2.2.2.2.2.2.2.1) (
 opt.bnd (W7w) _ (
 opt.run (W7w) (
 opt.need _ (p.rowOk L Q [ci,ci,(CK.list 1),ci])<|
 opt.need _ (p.cmp .geq G S)<|
 opt.need _ P<|
 opt.ask _ T (
 opt.bnd (W7w) _ (
 opt.run (W7w) (
 opt.ret _ a)) fun b=>
 opt.ret _ b) (
 opt.bnd (W7w) _ (
 opt.run (W7w) (
 opt.need _ P<|
 opt.ask _ T (
 opt.need _ J<|
 opt.ask _ (p.leN Y B) (
 opt.need _ N<|
 opt.need _ V<|
 opt.ret _ (I,(M,(E,O)))) (
 opt.need _ K<|
 opt.ret _ (R,(M,(0,O))))) (
 opt.need _ J<|
 opt.ask _ (p.leN Y B) (
 opt.need _ N<|
 opt.need _ V<|
 opt.ret _ (I,(U,(E,O)))) (
 opt.need _ K<|
 opt.ret _ (R,(U,(0,O))))))) fun c=>
 opt.ret _ c))) fun d=>
 opt.ret _ (Sum.inl (d.1,(d.2.1,(d.2.2.1,(d.2.2.2.1,(d.2.2.2.2.1,(d.2.2.2.2.2.1,(d.2.2.2.2.2.2.1,(d.2.2.2.2.2.2.2.1,(d.2.2.2.2.2.2.2.2.1,(d.2.2.2.2.2.2.2.2.2.1,((p.ar .add .i64 d.2.2.2.2.2.2.2.2.2.2.1 (1:Int)),()))))))))))))) (
 opt.ret _ (Sum.inr (a.1,(a.2.1,(a.2.2.1,(a.2.2.2.1,(a.2.2.2.2.1,(a.2.2.2.2.2.1,(a.2.2.2.2.2.2.1,(a.2.2.2.2.2.2.2.1,())))))))))))
def v6l (p:Prim):(List (W22w)×(LD×W32w))→Option ((List (W22w)×(LD×W32w))⊕(LD×(List (W22w)×(Nat×(Nat×W12w))))):=
 fun a=>let A:=a.2.2.2.2.2.2.2.1;let B:=a.2.2.2.2.2.1; opt.run _ (
 opt.ask _ (p.cmp .lss A a.2.2.2.2.2.2.1) (
 opt.need _ (p.rowOk B (p.nat A) [(CK.list 4)])<|
 opt.need _ (p.cmp .geq A (0:Int))<|
 opt.bnd ((LD×(List (W22w)×W32w))) _ (
 z5r (v5m p) (a.2.1,(a.1,(a.2.2.1,(a.2.2.2.1,(a.2.2.2.2.1,(B,(a.2.2.2.2.2.2.1,(A,((p.rdL B (p.nat A) 0),((p.ofNat (p.len (p.rdL B (p.nat A) 0))),((0:Int),())))))))))))) fun b=>
 opt.ret _ (Sum.inl (b.2.1,(b.1,(b.2.2.1,(b.2.2.2.1,(b.2.2.2.2.1,(b.2.2.2.2.2.1,(b.2.2.2.2.2.2.1,((p.ar .add .i64 b.2.2.2.2.2.2.2.1 (1:Int)),())))))))))) (
 opt.ret _ (Sum.inr (a.2.1,(a.1,(a.2.2.1,(a.2.2.2.1,(a.2.2.2.2.1,()))))))))
def G66:(p:Prim)→W12w→Option (W9w):=
 fun p x=>let E:=(0:Int);
 opt.bnd ((LD×(List (W22w)×(Nat×(Nat×W12w))))) _ (
 z5r (v6l p) ([],([],(0,(0,(x.1,(x.1,((p.ofNat (p.len x.1)),(E,()))))))))) fun a=>let B:=p.ofNat a.2.2.2.1;let A:=p.rep (p.nat B) [(D.int .u64 E),(D.int .u64 E)];let F:=p.eqN (p.nat B) (p.len A);
 opt.need _ (p.and (p.cmp .geq B E) (p.and (p.cmp .leq B B) (p.cmp .leq B (1000000:Int))))<|
 opt.need _ (p.eqN 0 0)<|
 opt.need _ F<|
 opt.need _ F<|
 opt.bnd (W9w) _ (
 z5r (v6k p) (a.1,(a.2.1,(A,(a.2.2.1,(a.2.2.2.1,(a.2.2.2.2.1,((p.ofNat (p.len a.2.2.2.2.1)),(E,()))))))))) fun b=>let C:=p.len b.2.2.1;
 opt.need _ (p.eqN 0 0)<|
 opt.need _ (p.eqN C C)<|
 opt.need _ (p.eqN C C)<|
 opt.ret _ b
theorem u1n:CtrOk PG v74 (G66 std):=okF vE (a:=an66) (l:=la66) (gC u1l (gN))
end Go.Am
end
noncomputable section
namespace Go.Am
def v73:Ctr:=
 ⟨67,[.bptr 0 0],q11m,[(.ret,⟨[(0, .vec 4 4)],[q2m,q4m, .map,q1m,q4m],1⟩)]⟩
def la67:List LA:=
 [⟨67,[fF,tT,fF,tT,tT,tT],4,⟨⟨[(1, .bptr 4 0),(3, .bptr 5 0),(4, .vec 6 4),(11, .int .i64),(12, .int .i64)],[q2m,q4m, .map,q1m,q8m,q6m,q4m],56⟩,[((AX.exit 0),⟨[(4, .vec 4 4)],[q2m,q4m, .map,q1m,q4m],56⟩)]⟩⟩,
 ⟨131,[fF,tT],11,⟨⟨[(0, .yld 10),(2, .bptr 9 0),(9, .full 3 2),(10, .int .i64),(11, .int .i64)],[q2m,q4m, .map,q1m,q8m,q6m,q4m,q9m,q8m,q6m, .loop Go.LoopState.ready Option.none 67 [Bool.false,Bool.true,Bool.false,Bool.true,Bool.false,Bool.false,Bool.true,Bool.true,Bool.false,Bool.false,Bool.true,Bool.false,Bool.true,Bool.true,Bool.true] 56 [(16, .clo 131 [] [.bptr 8 0, .bptr 9 0]),(5, .bptr 7 0),(1, .bptr 4 0),(11, .int .i64),(12, .int .i64),(4, .vec 6 4),(3, .bptr 5 0)]],34⟩,[((AX.exit 0),⟨[],[q2m,q4m, .map,q1m,q8m,q6m,q4m,q9m,q8m,q6m, .loop Go.LoopState.ready Option.none 67 [Bool.false,Bool.true,Bool.false,Bool.true,Bool.false,Bool.false,Bool.true,Bool.true,Bool.false,Bool.false,Bool.true,Bool.false,Bool.true,Bool.true,Bool.true] 56 [(16, .clo 131 [] [.bptr 8 0, .bptr 9 0]),(5, .bptr 7 0),(1, .bptr 4 0),(11, .int .i64),(12, .int .i64),(4, .vec 6 4),(3, .bptr 5 0)]],34⟩)]⟩⟩]
def ja67:List JA:=
 [⟨67,[tT,fF,tT,fF,tT,fF,tT,fF,fF,tT,tT,fF,fF,tT,fF,tT,tT,tT],12,[(AX.normal,⟨[(1, .bptr 4 0),(3, .bptr 5 0),(4, .vec 6 4),(5, .bptr 7 0),(11, .int .i64),(12, .int .i64)],[q2m,q4m, .map,q1m,q8m,q6m,q4m,q9m,q8m,q6m, .dead,q6m],56⟩)]⟩,
 ⟨131,[fF,tT,tT,fF,fF,tT],11,[(AX.normal,⟨[(0, .yld 10),(2, .bptr 9 0),(9, .full 3 2),(10, .int .i64),(11, .int .i64)],[q2m,q4m, .map,q1m,q8m,q6m,q4m,q9m,q8m,q6m, .loop Go.LoopState.ready Option.none 67 [Bool.false,Bool.true,Bool.false,Bool.true,Bool.false,Bool.false,Bool.true,Bool.true,Bool.false,Bool.false,Bool.true,Bool.false,Bool.true,Bool.true,Bool.true] 56 [(16, .clo 131 [] [.bptr 8 0, .bptr 9 0]),(5, .bptr 7 0),(1, .bptr 4 0),(11, .int .i64),(12, .int .i64),(4, .vec 6 4),(3, .bptr 5 0)]],34⟩)]⟩,
 ⟨67,[tT,fF,tT,fF,tT,fF,fF,tT,tT,fF,fF,tT,fF,tT,tT,tT],12,[(AX.normal,⟨[(1, .bptr 4 0),(3, .bptr 5 0),(4, .vec 6 4),(5, .bptr 7 0),(11, .int .i64),(12, .int .i64)],[q2m,q4m, .map,q1m,q8m,q6m,q4m,q9m,q8m,q6m, .dead,q6m],56⟩)]⟩]
def u0r:List CF:=
 [⟨v86,G75⟩,⟨v72,G72⟩,⟨v7i,v9x⟩,⟨v87,G74⟩]
def an67:Anns:=
 ⟨u0r,ja67,[]⟩
def v3l (p:Prim):W1w→Option (W1w⊕W28w):=
 fun a=>let K:=a.2.2.1;let V:=p.len K;let A:=p.eqN V V;let B:=a.2.2.2.2.2.2.2.2.2.2.2.2.2.2.1;let O:=a.2.2.2.2.2.2.2.2.2.1;let M:=a.2.2.2.2.2.2.2.2.2.2.1;let J:=p.add 0 (p.nat B);let A1:=p.rdI K J 0;let Z:=p.rdI K J 1;let N:=(a.2.2.2.2.2.2.2.2.2.2.2.1,(a.2.2.2.2.2.2.2.2.2.2.2.2.1,()));let C:=(O,(M,(A1,(Z,N))));let E:=p.eqN 0 0;let T:=a.2.2.2.1;let F:=p.eqN (p.len T) (p.len T);let P:=a.2.2.2.2.1;let Q:=a.2.2.2.2.2.1;let X:=a.2.2.2.2.2.2.1;let U:=a.2.2.2.2.2.2.2.1;let G:=(a.1,(a.2.1,(K,(T,(P,(Q,(X,(U,(B,C)))))))));let I:=a.2.2.2.2.2.2.2.2.1;let Y:=[ci,ci,(CK.list 1),ci];let A2:=p.cmp .geq B (0:Int); opt.run _ (
 opt.ask _ (p.cmp .lss B a.2.2.2.2.2.2.2.2.2.2.2.2.2.1) (
 opt.bnd (W1w) _ (
 opt.run (W1w) (
 opt.need _ (bif A2 then (p.cmp .lss B (p.ofNat V)) else Bool.false)<|
 opt.need _ (p.rowOk K J [(CK.int .u64),(CK.int .u64)])<|
 opt.bnd (W4w) _ (G74 p (O,(M,a.2.2.2.2.2.2.2.2.2.2.2.2.2.2))) fun b=>
 opt.ask _ (bif b.1 then Bool.false else Bool.true) (
 opt.bnd (W2w) _ (v9x p (A1,(Z,(O,(M,()))))) fun c=>
 opt.ask _ (bif (p.cmp .eql c.1 A1) then (bif (p.cmp .eql c.2.1 Z) then Bool.true else Bool.false) else Bool.false) (
 opt.bnd (W1w) _ (
 opt.run (W1w) (
 opt.ask _ (p.cmp .lss I (0:Int)) (
 opt.bnd (W1w) _ (
 opt.run (W1w) (
 opt.need _ E<|
 opt.need _ A<|
 opt.need _ A<|
 opt.need _ E<|
 opt.need _ F<|
 opt.ret _ G)) fun d=>let S:=p.len d.2.2.1;
 opt.need _ E<|
 opt.need _ (p.eqN S S)<|
 opt.need _ (p.eqN S S)<|
 opt.need _ E<|
 opt.need _ (p.eqN (p.len d.2.2.2.1) (p.len d.2.2.2.1))<|
 opt.ret _ d) (
 opt.need _ (bif A2 then (p.cmp .lss B (p.ofNat Q)) else Bool.false)<|
 opt.need _ (p.rowOk a.1 (p.add P (p.nat B)) Y)<|
 opt.need _ (bif (p.cmp .geq I (0:Int)) then (p.cmp .lss I (p.ofNat Q)) else Bool.false)<|
 opt.need _ (p.rowOk a.1 (p.add P (p.nat I)) Y)<|
 opt.bnd (W1w) _ (
 opt.run (W1w) (
 opt.ask _ (p.cmp .lss (p.rdI a.1 (p.add P (p.nat B)) 0) (p.rdI a.1 (p.add P (p.nat I)) 0)) (
 opt.need _ E<|
 opt.need _ A<|
 opt.need _ A<|
 opt.need _ E<|
 opt.need _ F<|
 opt.ret _ G) (
 opt.need _ E<|
 opt.need _ A<|
 opt.need _ A<|
 opt.need _ E<|
 opt.need _ F<|
 opt.ret _ (a.1,(a.2.1,(K,(T,(P,(Q,(X,(U,(I,C)))))))))))) fun e=>let R:=p.len e.2.2.1;
 opt.need _ E<|
 opt.need _ (p.eqN R R)<|
 opt.need _ (p.eqN R R)<|
 opt.need _ E<|
 opt.need _ (p.eqN (p.len e.2.2.2.1) (p.len e.2.2.2.1))<|
 opt.ret _ e))) fun f=>let L:=p.len f.2.2.1;
 opt.need _ E<|
 opt.need _ (p.eqN L L)<|
 opt.need _ (p.eqN L L)<|
 opt.need _ E<|
 opt.need _ (p.eqN (p.len T) (p.len f.2.2.2.1))<|
 opt.need _ E<|
 opt.need _ (p.eqN V L)<|
 opt.need _ (p.eqN V L)<|
 opt.ret _ (f.1,(f.2.1,(f.2.2.1,(f.2.2.2.1,(f.2.2.2.2.1,(f.2.2.2.2.2.1,(f.2.2.2.2.2.2.1,(f.2.2.2.2.2.2.2.1,(f.2.2.2.2.2.2.2.2.1,(f.2.2.2.2.2.2.2.2.2.1,(f.2.2.2.2.2.2.2.2.2.2.1,a.2.2.2.2.2.2.2.2.2.2.2)))))))))))) (
 opt.need _ E<|
 opt.need _ A<|
 opt.need _ A<|
 opt.need _ E<|
 opt.need _ F<|
 opt.need _ E<|
 opt.need _ A<|
 opt.need _ A<|
 opt.ret _ a)) (
 opt.need _ E<|
 opt.need _ A<|
 opt.need _ A<|
 opt.need _ E<|
 opt.need _ F<|
 opt.need _ E<|
 opt.need _ A<|
 opt.need _ A<|
 opt.ret _ a))) fun g=>let H:=p.eqN (p.len g.2.2.1) (p.len g.2.2.1);
 opt.need _ E<|
 opt.need _ H<|
 opt.need _ H<|
 opt.need _ E<|
 opt.need _ (p.eqN (p.len g.2.2.2.1) (p.len g.2.2.2.1))<|
 opt.need _ E<|
 opt.need _ H<|
 opt.need _ H<|
 opt.ret _ (Sum.inl (g.1,(g.2.1,(g.2.2.1,(g.2.2.2.1,(g.2.2.2.2.1,(g.2.2.2.2.2.1,(g.2.2.2.2.2.2.1,(g.2.2.2.2.2.2.2.1,(g.2.2.2.2.2.2.2.2.1,(g.2.2.2.2.2.2.2.2.2.1,(g.2.2.2.2.2.2.2.2.2.2.1,(g.2.2.2.2.2.2.2.2.2.2.2.1,(g.2.2.2.2.2.2.2.2.2.2.2.2.1,(g.2.2.2.2.2.2.2.2.2.2.2.2.2.1,((p.ar .add .i64 g.2.2.2.2.2.2.2.2.2.2.2.2.2.2.1 (1:Int)),()))))))))))))))))) (
 opt.need _ E<|
 opt.need _ A<|
 opt.need _ A<|
 opt.need _ E<|
 opt.need _ F<|
 opt.ret _ (Sum.inr (a.1,(a.2.1,(K,(T,(P,(Q,(X,(U,(I,(O,(M,N))))))))))))))
def v6i (p:Prim):W27w→Option (W27w⊕W10w):=
 fun a=>let L:=p.len a.2.2.1;let B:=p.eqN L L;let E:=p.len a.2.2.2.1;let F:=p.eqN 0 0;let J:=a.2.2.2.2.2.2.2.2.2.1;let K:=a.2.2.2.2.2.2.2.2.1; opt.run _ (
 opt.ask _ (p.cmp .lss J K) (
 opt.need _ F<|
 opt.need _ B<|
 opt.need _ B<|
 opt.need _ F<|
 opt.need _ (p.eqN E E)<|
 opt.need _ F<|
 opt.need _ B<|
 opt.need _ B<|
 opt.bnd (W28w) _ (
 z5r (v3l p) (a.1,(a.2.1,(a.2.2.1,(a.2.2.2.1,(a.2.2.2.2.1,(a.2.2.2.2.2.1,(a.2.2.2.2.2.2.1,(a.2.2.2.2.2.2.2.1,((-1:Int),(a.2.2.2.2.2.2.1,(a.2.2.2.2.2.2.2.1,(K,(J,((p.ofNat L),((0:Int),())))))))))))))))) fun b=>let G:=b.2.2.2.2.2.2.2.2.1;let C:=p.add b.2.2.2.2.1 (p.nat G);let I:=p.len b.2.2.1;
 opt.bnd (W2w) _ (G72 p (b.2.2.2.2.2.2.1,(b.2.2.2.2.2.2.2.1,(G,())))) fun c=>
 opt.need _ (bif (p.cmp .geq G (0:Int)) then (p.cmp .lss G (p.ofNat b.2.2.2.2.2.1)) else Bool.false)<|
 opt.need _ (p.rowOk b.1 C [ci,ci,(CK.list 1),ci])<|
 opt.bnd (W26w) _ (G75 p ((p.rdI b.1 C 0),((p.rdI b.1 C 1),((p.rdL b.1 C 2),((p.rdI b.1 C 3),()))))) fun d=>let A:=[[(D.int .i64 d.1),(D.int .i64 d.2.1),(D.list Bool.false 1 d.2.2.1),(D.int .i64 d.2.2.2.1)]];let H:=p.app (p.cut b.2.2.2.1 0 E) (p.cut A 0 1);
 opt.need _ (p.and (p.leN (p.add 0 1) (p.len A)) (p.and (p.leN (p.add 0 E) (p.len b.2.2.2.1)) (p.and (p.leN 1 1) (p.leN (p.add E 1) 1000000))))<|
 opt.need _ F<|
 opt.need _ (p.eqN I I)<|
 opt.need _ (p.eqN I I)<|
 opt.need _ F<|
 opt.need _ (p.eqN (p.add E 1) (p.len H))<|
 opt.ret _ (Sum.inl (b.1,(b.2.1,(b.2.2.1,(H,(b.2.2.2.2.1,(b.2.2.2.2.2.1,(c.1,(c.2.1,(K,((p.ar .add .i64 J (1:Int)),())))))))))))) (
 opt.need _ F<|
 opt.need _ B<|
 opt.need _ B<|
 opt.need _ F<|
 opt.need _ (p.eqN E E)<|
 opt.ret _ (Sum.inr (a.1,(a.2.1,(a.2.2.1,(a.2.2.2.1,(a.2.2.2.2.1,(a.2.2.2.2.2.1,())))))))))
def G67:(p:Prim)→W9w→Option (W10w):=
 fun p x=>let A:=p.len x.2.2.1;
 opt.need _ (p.eqN 0 0)<|
 opt.need _ (p.eqN A A)<|
 opt.need _ (p.eqN A A)<|
 opt.bnd (W10w) _ (
 z5r (v6i p) (x.1,(x.2.1,(x.2.2.1,([],(x.2.2.2.1,(x.2.2.2.2.1,((0:Int),((0:Int),((p.ofNat x.2.2.2.2.1),((0:Int),()))))))))))) fun a=>let B:=p.len a.2.2.1;
 opt.need _ (p.eqN 0 0)<|
 opt.need _ (p.eqN B B)<|
 opt.need _ (p.eqN B B)<|
 opt.need _ (p.eqN 0 0)<|
 opt.need _ (p.eqN (p.len a.2.2.2.1) (p.len a.2.2.2.1))<|
 opt.ret _ a
theorem u1m:CtrOk PG v73 (G67 std):=okF vD (a:=an67) (l:=la67) (gC ok75 (gC u1l (gC v98 (gC ok74 (gN)))))
def v9c:Ctr:=
 ⟨29,[.list 4],[],[(.ret,⟨[(0, .tuple [.vec 0 4, .int .i64])],[q4m],1⟩)]⟩
def la29:List LA:=
 []
def ja29:List JA:=
 []
def u0x:List CF:=
 [⟨v73,G67⟩,⟨v74,G66⟩,⟨w8g,F19⟩]
def an29:Anns:=
 ⟨u0x,ja29,[]⟩
def G29:(p:Prim)→W12w→Option (W8w):=
 fun p x=>
 opt.bnd (W16w) _ (G19 p x) fun a=>
 opt.ask _ (p.cmp .neq a.1 (0:Int)) (
 opt.ret _ ([],a)) (
 opt.bnd (W9w) _ (G66 p ([[(D.list Bool.false 4 x.1)]],())) fun b=>let A:=p.len b.2.2.1;
 opt.need _ (p.eqN 0 0)<|
 opt.need _ (p.eqN A A)<|
 opt.need _ (p.eqN A A)<|
 opt.bnd (W10w) _ (G67 p b) fun c=>
 opt.need _ (p.eqN 0 0)<|
 opt.need _ (p.eqN (p.len c.2.2.2.1) (p.len c.2.2.2.1))<|
 opt.ret _ (c.2.2.2.1,((0:Int),())))
theorem ok29:CtrOk PG v9c (G29 std):=okF vD (a:=an29) (l:=la29) (gC u1m (gC u1n (gC v2d (gN))))
end Go.Am
end
noncomputable section
namespace Go.Am
def v82:Ctr:=
 ⟨79,[.list 4],[],[(.ret,⟨[(0, .map 0)],[.map],1⟩)]⟩
def la79:List LA:=
 [⟨79,[fF,tT,fF,tT,tT],0,⟨⟨[(3, .map 0),(7, .list 4),(8, .int .i64),(9, .int .i64)],[.map],19⟩,[((AX.exit 0),⟨[(3, .map 0)],[.map],19⟩)]⟩⟩]
def ja79:List JA:=
 [⟨79,[fF,tT,tT,fF,fF,tT,fF,tT,tT],0,[(AX.normal,⟨[(3, .map 0),(7, .list 4),(8, .int .i64),(9, .int .i64)],[.map],19⟩)]⟩]
def u0k:List CF:=
 []
def an79:Anns:=
 ⟨u0k,ja79,[]⟩
def v6g (p:Prim):W24w→Option (W24w⊕W31w):=
 fun a=>let C:=p.nat a.2.2.2.1;let A:=D.int .i64 (p.rdI a.2.1 C 0);let B:=D.agg [A,(D.int .i64 (p.rdI a.2.1 C 1)),(D.list (p.rdF a.2.1 C 2 1) 1 (p.rdL a.2.1 C 2)),(D.int .i64 (p.rdI a.2.1 C 3))];let E:=[ci,ci,(CK.list 1),ci]; opt.run _ (
 opt.ask _ (p.cmp .lss a.2.2.2.1 a.2.2.1) (
 opt.bnd (W24w) _ (
 opt.run (W24w) (
 opt.need _ (p.rowOk a.2.1 C E)<|
 opt.need _ (p.cmp .geq a.2.2.2.1 (0:Int))<|
 opt.need _ (p.mOk a.1 [SK.i] Bool.false A Bool.true E)<|
 opt.ask _ (p.mhas a.1 [SK.i] Bool.false A) (
 opt.ret _ ((p.mset a.1 (p.nat (p.ofNat (p.mpos a.1 [SK.i] Bool.false A))) A B),a.2)) (
 opt.ret _ ((p.madd a.1 A B),a.2)))) fun b=>
 opt.ret _ (Sum.inl (b.1,(b.2.1,(b.2.2.1,((p.ar .add .i64 b.2.2.2.1 (1:Int)),())))))) (
 opt.ret _ (Sum.inr (a.1,()))))
def G79:(p:Prim)→W12w→Option (W31w):=
 fun p x=>
 opt.bnd (W31w) _ (
 z5r (v6g p) ([],(x.1,((p.ofNat (p.len x.1)),((0:Int),()))))) fun a=>
 opt.ret _ a
theorem ok79:CtrOk PG v82 (G79 std):=okF vE (a:=an79) (l:=la79) (gN)
def v7j:Ctr:=
 ⟨118,[.list 1, .list 1],[],[(.ret,⟨[(0, .bool)],[],1⟩)]⟩
def u0c:List LA:=
 [⟨118,[fF,tT,fF,tT,tT],0,⟨⟨[(0, .list 1),(1, .list 1),(12, .int .i64),(13, .int .i64)],[],26⟩,[(AX.ret,⟨[(4, .bool)],[],26⟩),((AX.exit 0),⟨[],[],26⟩)]⟩⟩]
def u0f:List JA:=
 []
def v8z:List CF:=
 []
def u1d:Anns:=
 ⟨v8z,u0f,[]⟩
def v3u (p:Prim):W13w→Option (W13w⊕(W4w⊕Unit)):=
 fun a=>let A:=a.2.2.2.1;let B:=p.cmp .geq A (0:Int);let C:=p.nat A; opt.run _ (
 opt.ask _ (p.cmp .lss A a.2.2.1) (
 opt.need _ (p.rowOk a.1 C [ci])<|
 opt.need _ B<|
 opt.need _ (p.rowOk a.2.1 C [ci])<|
 opt.need _ B<|
 opt.ask _ (p.cmp .neq (p.rdI a.1 C 0) (p.rdI a.2.1 C 0)) (
 opt.ret _ (Sum.inr (Sum.inl (Bool.false,())))) (
 opt.ret _ (Sum.inl (a.1,(a.2.1,(a.2.2.1,((p.ar .add .i64 A (1:Int)),()))))))) (
 opt.ret _ (Sum.inr (Sum.inr ()))))
def v8l:(p:Prim)→W21w→Option (W4w):=
 fun p x=>
 opt.ask _ (p.cmp .neq (p.ofNat (p.len x.1)) (p.ofNat (p.len x.2.1))) (
 opt.ret _ (Bool.false,())) (
 opt.alt (W4w) (Unit) _ (
 z5r (v3u p) (x.1,(x.2.1,((p.ofNat (p.len x.1)),((0:Int),()))))) (fun a=>
 opt.ret _ a) (fun b=>
 opt.bnd (Unit) _ (some b) fun c=>
 opt.ret _ (Bool.true,())))
theorem v99:CtrOk PG v7j (v8l std):=okF vE (a:=u1d) (l:=u0c) (gN)
def v71:Ctr:=
 ⟨80,[.agg [.int .i64, .int .i64, .list 1, .int .i64], .agg [.int .i64, .int .i64, .list 1, .int .i64]],[],[(.ret,⟨[(0, .bool)],[],1⟩)]⟩
def la80:List LA:=
 []
def ja80:List JA:=
 [⟨80,[fF,tT],0,[(AX.normal,⟨[(4, .bool)],[],31⟩)]⟩]
def u0j:List CF:=
 [⟨v7j,v8l⟩]
def an80:Anns:=
 ⟨u0j,ja80,[]⟩
def G80:(p:Prim)→(Int×(Int×(LD×(Int×W26w))))→Option (W4w):=
 fun p x=>
 opt.bnd (W4w) _ (
 opt.run (W4w) (
 opt.ask _ (p.cmp .eql x.1 x.2.2.2.2.1) (
 opt.ask _ (p.cmp .eql x.2.1 x.2.2.2.2.2.1) (
 opt.ask _ (p.cmp .eql x.2.2.2.1 x.2.2.2.2.2.2.2.1) (
 opt.bnd (W4w) _ (v8l p (x.2.2.1,(x.2.2.2.2.2.2.1,()))) fun a=>
 opt.ret _ a) (
 opt.ret _ (Bool.false,()))) (
 opt.ret _ (Bool.false,()))) (
 opt.ret _ (Bool.false,())))) fun b=>
 opt.ret _ b
theorem u1k:CtrOk PG v71 (G80 std):=okF vE (a:=an80) (l:=la80) (gC v99 (gN))
def v81:Ctr:=
 ⟨81,[.list 4, .list 4, .clo 80 [] []],[],[(.ret,⟨[(0, .bool)],[],1⟩)]⟩
def la81:List LA:=
 [⟨81,[fF,tT,fF,tT,tT],0,⟨⟨[(1, .list 4),(2, .clo 80 [] []),(15, .list 4),(16, .int .i64),(17, .int .i64)],[],32⟩,[(AX.ret,⟨[(6, .bool)],[],32⟩),((AX.exit 0),⟨[],[],32⟩)]⟩⟩]
def ja81:List JA:=
 []
def u0i:List CF:=
 [⟨v71,G80⟩]
def an81:Anns:=
 ⟨u0i,ja81,[]⟩
def v5k (p:Prim):W13w→Option (W13w⊕(W4w⊕Unit)):=
 fun a=>let E:=a.2.2.2.1;let A:=p.nat E;let B:=p.cmp .geq E (0:Int);let C:=[ci,ci,(CK.list 1),ci]; opt.run _ (
 opt.ask _ (p.cmp .lss E a.2.2.1) (
 opt.need _ (p.rowOk a.2.1 A C)<|
 opt.need _ B<|
 opt.need _ (p.rowOk a.1 A C)<|
 opt.need _ B<|
 opt.bnd (W4w) _ (G80 p ((p.rdI a.2.1 A 0),((p.rdI a.2.1 A 1),((p.rdL a.2.1 A 2),((p.rdI a.2.1 A 3),((p.rdI a.1 A 0),((p.rdI a.1 A 1),((p.rdL a.1 A 2),((p.rdI a.1 A 3),()))))))))) fun b=>
 opt.ask _ (bif b.1 then Bool.false else Bool.true) (
 opt.ret _ (Sum.inr (Sum.inl (Bool.false,())))) (
 opt.ret _ (Sum.inl (a.1,(a.2.1,(a.2.2.1,((p.ar .add .i64 E (1:Int)),()))))))) (
 opt.ret _ (Sum.inr (Sum.inr ()))))
def G81:(p:Prim)→W21w→Option (W4w):=
 fun p x=>
 opt.ask _ (p.cmp .neq (p.ofNat (p.len x.1)) (p.ofNat (p.len x.2.1))) (
 opt.ret _ (Bool.false,())) (
 opt.alt (W4w) (Unit) _ (
 z5r (v5k p) (x.2.1,(x.1,((p.ofNat (p.len x.1)),((0:Int),()))))) (fun a=>
 opt.ret _ a) (fun b=>
 opt.bnd (Unit) _ (some b) fun c=>
 opt.ret _ (Bool.true,())))
theorem ok81:CtrOk PG v81 (G81 std):=okF vE (a:=an81) (l:=la81) (gC u1k (gN))
end Go.Am
end
noncomputable section
namespace Go.Am
def v89:Ctr:=
 ⟨35,[.list 4, .list 4],[],[(.ret,⟨[(0, .int .i64)],[],1⟩)]⟩
def la35:List LA:=
 [⟨35,[fF,tT,fF,tT,tT,tT],0,⟨⟨[(0, .list 4),(1, .list 4),(6, .map 0),(19, .list 4),(20, .int .i64),(21, .int .i64)],[.map],57⟩,[(AX.ret,⟨[(4, .int .i64)],[],57⟩),((AX.exit 0),⟨[(0, .list 4),(1, .list 4),(6, .map 0)],[.map],57⟩)]⟩⟩]
def ja35:List JA:=
 [⟨35,[fF,tT,tT,fF,fF,tT,fF,tT,tT,tT],0,[(AX.ret,⟨[(4, .int .i64)],[],57⟩),(AX.normal,⟨[(0, .list 4),(1, .list 4),(6, .map 0),(19, .list 4),(20, .int .i64),(21, .int .i64)],[.map],57⟩)]⟩]
def u0u:List CF:=
 [⟨v73,G67⟩,⟨v74,G66⟩,⟨v82,G79⟩,⟨v81,G81⟩,⟨v71,G80⟩,⟨v83,G78⟩]
def an35:Anns:=
 ⟨u0u,ja35,[]⟩
def v4n (p:Prim):W19w→Option (W19w⊕(W16w⊕(List (W22w)×W21w))):=
 fun a=>let E:=a.2.2.2.1;let I:=a.2.2.2.2.2.1;let B:=p.nat I;let A:=D.int .i64 (p.rdI E B 0);let G:=[SK.i];let H:=[ci,ci,(CK.list 1),ci];let C:=p.mOk a.1 G Bool.false A Bool.true H;let F:=p.mhas a.1 G Bool.false A; opt.run _ (
 opt.ask _ (p.cmp .lss I a.2.2.2.2.1) (
 opt.alt (W16w) (W19w) _ (
 opt.run ((W16w⊕W19w)) (
 opt.need _ (p.rowOk E B H)<|
 opt.need _ (p.cmp .geq I (0:Int))<|
 opt.need _ C<|
 opt.ask _ F (
 opt.bnd (W4w) _ (G80 p ((p.mI a.1 G Bool.false A 0),((p.mI a.1 G Bool.false A 1),((p.mL a.1 G Bool.false A 2),((p.mI a.1 G Bool.false A 3),((p.rdI E B 0),((p.rdI E B 1),((p.rdL E B 2),((p.rdI E B 3),()))))))))) fun b=>
 opt.ask _ (bif b.1 then Bool.false else Bool.true) (
 opt.ret _ (Sum.inl ((15:Int),()))) (
 opt.need _ C<|
 opt.ask _ F (
 opt.ret _ (Sum.inr ((p.mdel a.1 (p.nat (p.ofNat (p.mpos a.1 G Bool.false A)))),a.2))) (
 opt.ret _ (Sum.inr a)))) (
 opt.ret _ (Sum.inl ((15:Int),()))))) (fun c=>
 opt.ret _ (Sum.inr (Sum.inl c))) (fun d=>
 opt.bnd (W19w) _ (some d) fun e=>
 opt.ret _ (Sum.inl (e.1,(e.2.1,(e.2.2.1,(e.2.2.2.1,(e.2.2.2.2.1,((p.ar .add .i64 e.2.2.2.2.2.1 (1:Int)),()))))))))) (
 opt.ret _ (Sum.inr (Sum.inr (a.1,(a.2.1,(a.2.2.1,())))))))
def G35:(p:Prim)→W21w→Option (W16w):=
 fun p x=>let F:=(0:Int);
 opt.bnd (W16w) _ (G78 p x) fun a=>
 opt.ask _ (p.cmp .neq a.1 F) (
 opt.ret _ a) (
 opt.bnd (W31w) _ (G79 p x.2) fun b=>
 opt.alt (W16w) ((List (W22w)×W21w)) _ (
 z5r (v4n p) (b.1,(x.1,(x.2.1,(x.1,((p.ofNat (p.len x.1)),(F,()))))))) (fun c=>
 opt.ret _ c) (fun d=>
 opt.bnd ((List (W22w)×W21w)) _ (some d) fun e=>
 opt.ask _ (p.cmp .gtr (p.ofNat (p.mlen e.1)) F) (
 opt.ret _ ((15:Int),())) (
 opt.bnd (W9w) _ (G66 p ([[(D.list Bool.false 4 e.2.1)]],())) fun f=>let B:=p.len f.2.2.1;
 opt.need _ (p.eqN 0 0)<|
 opt.need _ (p.eqN B B)<|
 opt.need _ (p.eqN B B)<|
 opt.bnd (W10w) _ (G67 p f) fun g=>let E:=p.len g.2.2.2.1;
 opt.bnd (W9w) _ (G66 p ([[(D.list Bool.false 4 e.2.2.1)]],())) fun h=>let A:=p.len h.2.2.1;
 opt.need _ (p.eqN 0 0)<|
 opt.need _ (p.eqN A A)<|
 opt.need _ (p.eqN A A)<|
 opt.bnd (W10w) _ (G67 p h) fun i=>let C:=p.len i.2.2.2.1;
 opt.need _ (p.and (p.leN (p.add 0 E) E) (p.and (p.leN (p.add 0 C) C) (p.and (p.and Bool.true Bool.true) Bool.true)))<|
 opt.bnd (W4w) _ (G81 p ((p.cut g.2.2.2.1 0 E),((p.cut i.2.2.2.1 0 C),()))) fun j=>
 opt.ask _ (bif j.1 then Bool.false else Bool.true) (
 opt.ret _ ((24:Int),())) (
 opt.ret _ (F,())))))
theorem ok35:CtrOk PG v89 (G35 std):=okF vD (a:=an35) (l:=la35) (gC u1m (gC u1n (gC ok79 (gC ok81 (gC u1k (gC ok78 (gN)))))))
end Go.Am
end
noncomputable section
namespace Go.Am
def v3q:Ctr:=
 ⟨57,[.list 1],[],[(.ret,⟨[(0, .lst 1)],[],1⟩)]⟩
def v8f:(p:Prim)→W12w→Option (W12w):=
 fun p x=>let A:=p.ofNat (p.len x.1);let C:=p.nat A;let B:=p.rep C [(D.int .i64 (0:Int))];let E:=p.eqN C (p.len (p.splice B 0 x.1));
 opt.need _ (p.and (p.cmp .geq A (0:Int)) (p.and (p.cmp .leq A A) (p.cmp .leq A (1000000:Int))))<|
 opt.need _ (p.and Bool.true (p.and (p.leN (p.len x.1) C) (p.leN (p.add 0 C) (p.len B))))<|
 opt.need _ (p.eqN 0 0)<|
 opt.need _ E<|
 opt.need _ E<|
 opt.bnd (W12w) _ (w6a p ((p.splice B 0 x.1),())) fun a=>
 opt.bnd ((LD×(Nat×(Nat×(Nat×Unit))))) _ (w2z p (a.1,(0,(C,(C,()))))) fun b=>
 opt.need _ (p.leN (p.add b.2.1 b.2.2.1) (p.len b.1))<|
 opt.need _ (p.eqN b.2.2.1 b.2.2.2.1)<|
 opt.ret _ ((p.cut b.1 b.2.1 b.2.2.1),())
def u1p:Prim→Tup (v3q).scs→Option (STup (scss (v3q).outs)):=
 fun p x=>v8f p x
theorem u0z (p:Prim) (x:Tup (v3q).scs):bodyRun opt p (autoEnvE [] PG) (mkOrc opt p (autoEnvE [] PG) 400 (an57) la57) 400 v3q x=v8f p x:=by kernel_rfl
theorem v6b:z42 PG 57:=enters_auto (b:=_) rfl (by kernel_rfl)
theorem v97:CtrOk PG v3q (u1p std):=ctr_of_body (autoEnvE_ok follows_mixed) (mkOrc_ok (autoEnvE_ok follows_mixed) u0h _) v6b (fun x=>u0z std x)
end Go.Am
end
noncomputable section
namespace Go.Am
def v9d:Ctr:=
 ⟨27,[.list 4],[],[(.ret,⟨[(0, .tuple [.vec 0 1, .int .i64])],[q7m],1⟩)]⟩
def la27:List LA:=
 [⟨27,[fF,tT,fF,tT,tT,tT,tT],0,⟨⟨[(5, .map 0),(6, .vec 1 1),(20, .list 4),(21, .int .i64),(22, .int .i64)],[.map,q7m],72⟩,[((AX.exit 0),⟨[(6, .vec 0 1)],[q7m],72⟩)]⟩⟩,
 ⟨27,[fF,tT,fF,tT,tT,fF,fF,tT,tT,fF,fF,tT,fF,tT,tT,tT,tT],0,⟨⟨[(5, .map 0),(6, .vec 1 1),(8, .bptr 2 0),(9, .int .i64),(20, .list 4),(21, .int .i64),(22, .int .i64),(27, .list 1),(28, .int .i64),(29, .int .i64)],q13m,72⟩,[((AX.exit 2),⟨[(5, .map 0),(6, .vec 1 1),(8, .bptr 2 0),(9, .int .i64),(20, .list 4),(21, .int .i64),(22, .int .i64)],q13m,72⟩)]⟩⟩,
 ⟨27,[fF,tT,tT,tT,tT,tT,tT,fF,fF,tT,tT,fF,fF,tT,fF,tT,tT,tT,tT],0,⟨⟨[(5, .map 0),(6, .vec 1 1),(9, .int .i64),(20, .list 4),(21, .int .i64),(22, .int .i64),(59, .list 1),(60, .int .i64),(61, .int .i64)],[.map,q7m],72⟩,[((AX.exit 4),⟨[(5, .map 0),(6, .vec 1 1),(20, .list 4),(21, .int .i64),(22, .int .i64)],[.map,q7m],72⟩)]⟩⟩]
def ja27:List JA:=
 [⟨27,[fF,tT,tT,fF,fF,tT,tT,tT,tT,tT,tT,fF,fF,tT,tT,fF,fF,tT,fF,tT,tT,tT,tT],0,[(AX.normal,⟨[(5, .map 0),(6, .vec 1 1),(9, .int .i64),(20, .list 4),(21, .int .i64),(22, .int .i64),(59, .list 1),(60, .int .i64),(61, .int .i64)],[.map,q7m],72⟩)]⟩,
 ⟨27,[tT,fF,tT,tT,tT,fF,fF,tT,tT,fF,fF,tT,fF,tT,tT,tT,tT],0,[(AX.normal,⟨[(5, .map 0),(6, .vec 1 1),(8, .bptr 2 0),(9, .int .i64),(20, .list 4),(21, .int .i64),(22, .int .i64)],q13m,72⟩)]⟩,
 ⟨27,[fF,tT,tT,fF,fF,tT,fF,tT,tT,fF,fF,tT,tT,fF,fF,tT,fF,tT,tT,tT,tT],0,[(AX.normal,⟨[(5, .map 0),(6, .vec 1 1),(8, .bptr 2 0),(9, .int .i64),(20, .list 4),(21, .int .i64),(22, .int .i64),(27, .list 1),(28, .int .i64),(29, .int .i64)],q13m,72⟩)]⟩]
def u0y:List CF:=
 [⟨v3q,u1p⟩,⟨w8g,F19⟩]
def an27:Anns:=
 ⟨u0y,ja27,[]⟩
def v5n (p:Prim):W20w→Option (W20w⊕W30w):=
 fun a=>let C:=a.2.2.2.2.2.2.2.2.1;let A:=D.int .i64 (p.rdI a.2.2.2.2.2.2.1 (p.nat C) 0);let B:=p.eqN (p.len a.2.1) (p.len a.2.1);let E:=D.int .i64 (p.ar .add .i64 a.2.2.1 (1:Int));let F:=p.eqN 0 0; opt.run _ (
 opt.ask _ (p.cmp .lss C a.2.2.2.2.2.2.2.1) (
 opt.bnd (W20w) _ (
 opt.run (W20w) (
 opt.need _ (p.rowOk a.2.2.2.2.2.2.1 (p.nat C) [ci])<|
 opt.need _ (p.cmp .geq C (0:Int))<|
 opt.need _ (p.mOk a.1 [SK.i] Bool.false A Bool.false [ci])<|
 opt.ask _ (p.mhas a.1 [SK.i] Bool.false A) (
 opt.need _ F<|
 opt.need _ B<|
 opt.ret _ ((p.mset a.1 (p.nat (p.ofNat (p.mpos a.1 [SK.i] Bool.false A))) A E),a.2)) (
 opt.need _ F<|
 opt.need _ B<|
 opt.ret _ ((p.madd a.1 A E),a.2)))) fun b=>
 opt.need _ F<|
 opt.need _ (p.eqN (p.len b.2.1) (p.len b.2.1))<|
 opt.ret _ (Sum.inl (b.1,(b.2.1,(b.2.2.1,(b.2.2.2.1,(b.2.2.2.2.1,(b.2.2.2.2.2.1,(b.2.2.2.2.2.2.1,(b.2.2.2.2.2.2.2.1,((p.ar .add .i64 b.2.2.2.2.2.2.2.2.1 (1:Int)),()))))))))))) (
 opt.need _ F<|
 opt.need _ B<|
 opt.ret _ (Sum.inr (a.1,(a.2.1,(a.2.2.2.1,(a.2.2.2.2.1,(a.2.2.2.2.2.1,()))))))))
def v5o (p:Prim):W14w→Option (W14w⊕W18w):=
 fun a=>let H:=a.2.2.2.2.2.2.2.2.2.2.1;let B:=a.2.2.2.2.2.2.2.2.2.2.2.2.1;let A:=D.int .i64 (p.rdI H (p.nat B) 0);let C:=p.eqN (p.len a.2.1) (p.len a.2.1);let E:=p.eqN 0 0;let F:=a.2.2.2.2.2.2.1;let G:=a.2.2.2.2.2.1; opt.run _ (
 opt.ask _ (p.cmp .lss B a.2.2.2.2.2.2.2.2.2.2.2.1) (
 opt.bnd (W14w) _ (
 opt.run (W14w) (
 opt.need _ (p.rowOk H (p.nat B) [ci])<|
 opt.need _ (p.cmp .geq B (0:Int))<|
 opt.need _ (p.mOk a.1 [SK.i] Bool.false A Bool.false [ci])<|
 opt.ask _ (p.mhas a.1 [SK.i] Bool.false A) (
 opt.need _ E<|
 opt.need _ C<|
 opt.ret _ (a.1,(a.2.1,(a.2.2.1,(a.2.2.2.1,(a.2.2.2.2.1,(G,((p.mm .gtr F (p.mI a.1 [SK.i] Bool.false A 0)),a.2.2.2.2.2.2.2)))))))) (
 opt.need _ E<|
 opt.need _ C<|
 opt.ret _ (a.1,(a.2.1,(a.2.2.1,(a.2.2.2.1,(a.2.2.2.2.1,(G,((p.mm .gtr F (0:Int)),a.2.2.2.2.2.2.2)))))))))) fun b=>
 opt.need _ E<|
 opt.need _ (p.eqN (p.len b.2.1) (p.len b.2.1))<|
 opt.ret _ (Sum.inl (b.1,(b.2.1,(b.2.2.1,(b.2.2.2.1,(b.2.2.2.2.1,(b.2.2.2.2.2.1,(b.2.2.2.2.2.2.1,(b.2.2.2.2.2.2.2.1,(b.2.2.2.2.2.2.2.2.1,(b.2.2.2.2.2.2.2.2.2.1,(b.2.2.2.2.2.2.2.2.2.2.1,(b.2.2.2.2.2.2.2.2.2.2.2.1,((p.ar .add .i64 b.2.2.2.2.2.2.2.2.2.2.2.2.1 (1:Int)),()))))))))))))))) (
 opt.need _ E<|
 opt.need _ C<|
 opt.ret _ (Sum.inr (a.1,(a.2.1,(a.2.2.1,(a.2.2.2.1,(a.2.2.2.2.1,(G,(F,(a.2.2.2.2.2.2.2.1,(a.2.2.2.2.2.2.2.2.1,(a.2.2.2.2.2.2.2.2.2.1,())))))))))))))
def v5p (p:Prim):W30w→Option (W30w⊕W12w):=
 fun a=>let M:=(0:Int);let N:=a.2.2.2.2.1;let C:=p.nat N;let O:=[[(D.list Bool.true 0 [])]];let G:=p.eqN 0 0;let J:=a.2.2.1;let K:=p.len a.2.1;let Q:=p.rdL J C 2; opt.run _ (
 opt.ask _ (p.cmp .lss N a.2.2.2.1) (
 opt.need _ (p.rowOk J C [ci,ci,(CK.list 1),ci])<|
 opt.need _ (p.cmp .geq N M)<|
 opt.need _ G<|
 opt.need _ (p.eqN K K)<|
 opt.bnd (W18w) _ (
 z5r (v5o p) (a.1,(a.2.1,((p.rdI J C 0),((p.rdI J C 1),(Q,((p.rdI J C 3),(M,(J,(a.2.2.2.1,(N,(Q,((p.ofNat (p.len Q)),(M,())))))))))))))) fun b=>let E:=p.len b.2.1;let F:=p.app (p.cut b.2.1 0 E) (p.cut O 0 1);
 opt.bnd (W18w) _ (
 opt.run (W18w) (
 opt.ask _ (p.cmp .eql b.2.2.2.2.2.2.1 (p.ofNat E)) (
 opt.need _ (p.and (p.leN (p.add 0 1) (p.len O)) (p.and (p.leN (p.add 0 E) E) (p.and (p.leN 1 1) (p.leN (p.add E 1) 1000000))))<|
 opt.need _ G<|
 opt.need _ (p.eqN (p.add E 1) (p.len F))<|
 opt.ret _ (b.1,(F,b.2.2))) (
 opt.need _ G<|
 opt.need _ (p.eqN E E)<|
 opt.ret _ b))) fun c=>let I:=c.2.2.2.2.2.2.1;let A:=p.add 0 (p.nat I);let B:=bif (p.cmp .geq I M) then (p.cmp .lss I (p.ofNat (p.len c.2.1))) else Bool.false;let L:=p.rowOk c.2.1 A [(CK.list 1)];let P:=[[(D.int .i64 c.2.2.1)]];
 opt.need _ B<|
 opt.need _ L<|
 opt.ask _ (p.rdF c.2.1 A 0 1) (
 opt.need _ (p.and (p.leN (p.add 0 1) (p.len P)) (p.and (p.leN 1 1) (p.leN (p.add (p.len (p.rdL c.2.1 A 0)) 1) 1000000)))<|
 opt.bnd (W12w) _ (v8f p ((p.app (p.rdL c.2.1 A 0) (p.cut P 0 1)),())) fun d=>let H:=p.set c.2.1 A [(D.list Bool.true 1 d.1)];
 opt.need _ B<|
 opt.need _ L<|
 opt.need _ G<|
 opt.need _ (p.eqN (p.len c.2.1) (p.len H))<|
 opt.bnd (W30w) _ (
 z5r (v5n p) (c.1,(H,(I,(c.2.2.2.2.2.2.2.1,(c.2.2.2.2.2.2.2.2.1,(c.2.2.2.2.2.2.2.2.2.1,(c.2.2.2.2.1,((p.ofNat (p.len c.2.2.2.2.1)),(M,())))))))))) fun e=>
 opt.need _ G<|
 opt.need _ (p.eqN (p.len e.2.1) (p.len e.2.1))<|
 opt.ret _ (Sum.inl (e.1,(e.2.1,(e.2.2.1,(e.2.2.2.1,((p.ar .add .i64 e.2.2.2.2.1 (1:Int)),()))))))) (
 opt.no _ 41)) (
 opt.need _ G<|
 opt.need _ (p.eqN K K)<|
 opt.ret _ (Sum.inr (a.2.1,()))))
def G27:(p:Prim)→W12w→Option (W8w):=
 fun p x=>
 opt.bnd (W16w) _ (G19 p x) fun a=>
 opt.ask _ (p.cmp .neq a.1 (0:Int)) (
 opt.ret _ ([],a)) (
 opt.bnd (W12w) _ (
 z5r (v5p p) ([],([],(x.1,((p.ofNat (p.len x.1)),((0:Int),())))))) fun b=>
 opt.need _ (p.eqN 0 0)<|
 opt.need _ (p.eqN (p.len b.1) (p.len b.1))<|
 opt.ret _ (b.1,((0:Int),())))
theorem ok27:CtrOk PG v9d (G27 std):=okF vE1000003 (a:=an27) (l:=la27) (gC v97 (gC v2d (gN)))
end Go.Am
end
section
namespace Go.Am
open D12
variable {fl fl':List Int→Bool}
def v8k (l:List Cd):Bool:=!x8g l&&decide (z4y l=0)
theorem v9t (l:List Cd):G41 std (z0p fl l,())=some (v8k l,()):=by
 unfold G41 v8k
 cases h:x8g l with
 |true=>simp only [z2d,z2e,z4b,Int.reduceLT,Int.reduceEq,Int.reduceLE,w3t,h]; simp
 |false=>
  simp only [z2d,z2e,z4b,Int.reduceLT,Int.reduceEq,Int.reduceLE,w3t,h,w8x l (x0p h).1]
def v4i (a b:List Cd):Int:=if z4y a≠0 then z4y a else z4y b
end Go.Am
end
section
namespace Go.Am
open D12
variable {fl fl':List Int→Bool}
theorem v9m (a b:List Cd) (ha:Few a) (hb:Few b):G78 std (z0p fl a,(z0p fl' b,()))=some (v4i a b,()):=by
 unfold G78 v4i
 by_cases h:z4y a=0
 ·simp only [z2d,z2e,z4b,Int.reduceLT,Int.reduceEq,Int.reduceLE,w3q a ha,w3q b hb,h]; simp
 ·simp only [z2d,z2e,z4b,Int.reduceLT,Int.reduceEq,Int.reduceLE,w3q a ha,w3q b hb,h]; simp [h]
end Go.Am
end
noncomputable section
namespace Go.Am
def ctr9:Ctr:=
 ⟨9,[.list 4, .list 1],[],[(.ret,⟨[(0, .bool)],[],1⟩)]⟩
def la9:List LA:=
 [⟨9,[fF,tT,fF,tT,tT,tT,tT],0,⟨⟨[(0, .list 4),(1, .list 1),(5, .sl 0 4),(6, .vec 1 4),(7, .int .i64)],[q4m,q4m],130⟩,[((AX.exit 0),⟨[(0, .list 4),(6, .vec 0 4)],[q4m],130⟩)]⟩⟩]
def ja9:List JA:=
 [⟨9,[fF,fF,tT],0,[(AX.normal,⟨[(0, .list 4),(1, .list 1),(25, .bool)],[],130⟩)]⟩,
 ⟨9,[fF,tT,tT,tT,tT,tT,tT,tT,tT,tT,tT],0,[(AX.normal,⟨[(4, .bool)],[],130⟩)]⟩,
 ⟨9,[fF,tT,fF,fF,tT,fF,tT,tT,tT,tT],0,[(AX.normal,⟨[(0, .list 4),(1, .list 1),(5, .sl 0 4),(6, .vec 1 4),(7, .int .i64)],[q4m,q4m],130⟩)]⟩,
 ⟨9,[tT,fF,tT,fF,fF,tT,fF,fF,tT,fF,tT,tT,tT,tT],0,[(AX.normal,⟨[(0, .list 4),(1, .list 1),(5, .sl 0 4),(6, .vec 1 4),(7, .int .i64),(8, .int .i64)],[q4m,q4m],130⟩)]⟩]
def gam9:List CF:=
 [⟨v9c,G29⟩,⟨v9d,G27⟩,⟨v9a,G34⟩,⟨v9b,G33⟩,⟨v89,G35⟩,⟨w18,F16⟩,⟨v88,G41⟩]
def an9:Anns:=
 ⟨gam9,ja9,[⟨9,[false,true,true,true,true,true],⟨[(0, .list 4),(6, .list 4)],[],130⟩⟩]⟩
def v5q (p:Prim):W6w→Option (W6w⊕W21w):=
 fun a=>let T:=(0:Int);let Z:=p.add 0 0;let B4:=a.2.2.2.2.2.2.1;let B2:=a.2.2.2.1;let A1:=p.ofNat (p.len B2);let P:=p.ar .rem .i64 B4 A1;let V:=p.eqN 0 0;let Y:=p.eqN (p.len a.2.1) (p.len a.2.1);let A3:=a.2.2.2.2.2.1;let A6:=p.leN Z (p.len []);let B5:=p.ofNat A3; opt.run _ (
 opt.ask _ (p.cmp .gtr B5 T) (
 opt.bnd (W6w) _ (
 opt.run (W6w) (
 opt.bnd (W17w) _ (
 opt.run (W17w) (
 opt.ask _ (p.cmp .gtr A1 T) (
 opt.need _ (p.cmp .neq A1 T)<|
 opt.need _ (p.rowOk B2 (p.nat P) [(CK.int .u8)])<|
 opt.need _ (p.cmp .geq P T)<|
 opt.need _ (p.cmp .neq B5 T)<|
 opt.need _ V<|
 opt.need _ Y<|
 opt.ret _ (a.1,(a.2.1,(a.2.2.1,(B2,(a.2.2.2.2.1,(A3,(B4,((p.ar .rem .i64 (p.cvt .i64 (p.rdI B2 (p.nat P) 0)) B5),()))))))))) (
 opt.need _ V<|
 opt.need _ Y<|
 opt.ret _ (a.1,(a.2.1,(a.2.2.1,(B2,(a.2.2.2.2.1,(A3,(B4,(T,()))))))))))) fun b=>let A4:=p.len b.2.1;let O:=b.2.2.2.2.2.2.2.1;let G:=p.add b.2.2.2.2.1 (p.nat O);let M:=[[(D.int .i64 (p.rdI b.1 G 0)),(D.int .i64 (p.rdI b.1 G 1)),(D.list (p.rdF b.1 G 2 1) 1 (p.rdL b.1 G 2)),(D.int .i64 (p.rdI b.1 G 3))]];let A:=p.app (p.cut b.2.1 0 A4) (p.cut M 0 1);let R:=p.ofNat b.2.2.2.2.2.1;let X:=p.ar .add .i64 O (1:Int);let B:=p.sub (p.nat R) (p.nat X);let C:=p.sub (p.nat O) (p.nat T);let S:=p.add b.2.2.2.2.1 (p.nat T);let E:=p.splice [] Z (p.cut b.1 S C);let F:=p.add b.2.2.2.2.1 (p.nat X);let H:=p.and (p.cmp .geq X T) (p.and (p.cmp .leq X R) (p.cmp .leq R R));let I:=p.app (p.cut [] 0 0) (p.cut b.1 S C);let J:=p.eqN (p.add A4 1) (p.len A);let K:=p.add 0 C;let L:=p.leN (p.add F B) (p.len b.1);let B3:=p.add K B;let N:=(A,(b.2.2.1,(b.2.2.2.1,(0,(B3,(b.2.2.2.2.2.2.1,()))))));let Q:=(A,(b.2.2.1,(b.2.2.2.1,(0,(K,(b.2.2.2.2.2.2.1,()))))));let A8:=p.add 0 K;let U:=p.leN A8 (p.len E);let A2:=p.and (p.leN 1 B) (p.leN B3 1000000);let A5:=p.cut b.1 F B;let A7:=p.leN B 0;let A9:=p.leN Z (p.len E);let B1:=p.leN (p.add S C) (p.len b.1);let B6:=p.and L (p.and U A7);
 opt.need _ (bif (p.cmp .geq O T) then (p.cmp .lss O R) else Bool.false)<|
 opt.need _ (p.rowOk b.1 G [ci,ci,(CK.list 1),ci])<|
 opt.need _ (p.and (p.leN (p.add 0 1) (p.len M)) (p.and (p.leN (p.add 0 A4) A4) (p.and (p.leN 1 1) (p.leN (p.add A4 1) 1000000))))<|
 opt.need _ (p.and (p.cmp .geq T T) (p.and (p.cmp .leq T O) (p.cmp .leq O R)))<|
 opt.ask _ (p.leN K 0) (
 opt.need _ (p.and B1 (p.and A6 A6))<|
 opt.need _ H<|
 opt.ask _ A7 (
 opt.ask _ (p.leN B3 0) (
 opt.need _ B6<|
 opt.need _ A9<|
 opt.need _ V<|
 opt.need _ J<|
 opt.ret _ (E,Q)) (
 opt.need _ B6<|
 opt.need _ A9<|
 opt.need _ V<|
 opt.need _ J<|
 opt.ret _ (E,Q))) (
 opt.ask _ (p.leN B3 0) (
 opt.need _ (p.and L (p.and U (p.and (p.leN 1 B) A9)))<|
 opt.need _ (p.leN Z (p.len (p.splice E A8 A5)))<|
 opt.need _ V<|
 opt.need _ J<|
 opt.ret _ ((p.splice E A8 A5),N)) (
 opt.need _ (p.and L (p.and U A2))<|
 opt.need _ V<|
 opt.need _ J<|
 opt.ret _ ((p.app (p.cut E 0 K) A5),N)))) (
 opt.need _ (p.and B1 (p.and A6 (p.and (p.leN 1 C) (p.leN K 1000000))))<|
 opt.need _ H<|
 opt.ask _ A7 (
 opt.need _ (p.and L (p.and (p.leN A8 (p.len I)) A7))<|
 opt.need _ V<|
 opt.need _ J<|
 opt.ret _ (I,Q)) (
 opt.need _ (p.and L (p.and (p.leN A8 (p.len I)) A2))<|
 opt.need _ V<|
 opt.need _ J<|
 opt.ret _ ((p.app (p.cut I 0 K) A5),N))))) fun c=>
 opt.need _ V<|
 opt.need _ (p.eqN (p.len c.2.1) (p.len c.2.1))<|
 opt.ret _ (Sum.inl (c.1,(c.2.1,(c.2.2.1,(c.2.2.2.1,(c.2.2.2.2.1,(c.2.2.2.2.2.1,((p.ar .add .i64 c.2.2.2.2.2.2.1 (1:Int)),()))))))))) (
 opt.need _ V<|
 opt.need _ Y<|
 opt.ret _ (Sum.inr (a.2.1,(a.2.2.1,())))))
def v9z (p:Prim):W6w→Option (W6w⊕W21w):=
 fun a=>let T:=(0:Int);let Z:=p.add 0 0;let B4:=a.2.2.2.2.2.2.1;let B2:=a.2.2.2.1;let A1:=p.ofNat (p.len B2);let P:=p.ar .rem .i64 B4 A1;let V:=p.eqN 0 0;let Y:=p.eqN (p.len a.2.1) (p.len a.2.1);let A3:=a.2.2.2.2.2.1;let A6:=p.leN Z (p.len []);let B5:=p.ofNat A3; opt.run _ (
 opt.ask _ (p.cmp .gtr B5 T) (
 opt.bnd (W6w) _ (
 opt.run (W6w) (
 opt.bnd (W17w) _ (
 opt.run (W17w) (
 opt.ask _ (p.cmp .gtr A1 T) (
 opt.need _ (p.cmp .neq A1 T)<|
 opt.need _ (p.rowOk B2 (p.nat P) [(CK.int .u8)])<|
 opt.need _ (p.cmp .geq P T)<|
 opt.need _ (p.cmp .neq B5 T)<|
 opt.need _ V<|
 opt.need _ Y<|
 opt.ret _ (a.1,(a.2.1,(a.2.2.1,(B2,(a.2.2.2.2.1,(A3,(B4,((p.ar .rem .i64 (p.cvt .i64 (p.rdI B2 (p.nat P) 0)) B5),()))))))))) (
 opt.need _ V<|
 opt.need _ Y<|
 opt.ret _ (a.1,(a.2.1,(a.2.2.1,(B2,(a.2.2.2.2.1,(A3,(B4,(T,()))))))))))) fun b=>let A4:=p.len b.2.1;let O:=b.2.2.2.2.2.2.2.1;let G:=p.add b.2.2.2.2.1 (p.nat O);let M:=[[(D.int .i64 (p.rdI b.1 G 0)),(D.int .i64 (p.rdI b.1 G 1)),(D.list (p.rdF b.1 G 2 1) 1 (p.rdL b.1 G 2)),(D.int .i64 (p.rdI b.1 G 3))]];let A:=p.app (p.cut b.2.1 0 A4) (p.cut M 0 1);let R:=p.ofNat b.2.2.2.2.2.1;let X:=p.ar .add .i64 O (1:Int);let B:=p.sub (p.nat R) (p.nat X);let C:=p.sub (p.nat O) (p.nat T);let S:=p.add b.2.2.2.2.1 (p.nat T);let E:=p.splice [] Z (p.cut b.1 S C);let F:=p.add b.2.2.2.2.1 (p.nat X);let H:=p.and (p.cmp .geq X T) (p.and (p.cmp .leq X R) (p.cmp .leq R R));let I:=p.app (p.cut [] 0 0) (p.cut b.1 S C);let J:=p.eqN (p.add A4 1) (p.len A);let K:=p.add 0 C;let L:=p.leN (p.add F B) (p.len b.1);let B3:=p.add K B;let N:=(A,(b.2.2.1,(b.2.2.2.1,(0,(B3,(b.2.2.2.2.2.2.1,()))))));let Q:=(A,(b.2.2.1,(b.2.2.2.1,(0,(K,(b.2.2.2.2.2.2.1,()))))));let A8:=p.add 0 K;let U:=p.leN A8 (p.len E);let A2:=p.and (p.leN 1 B) (p.leN B3 1000000);let A5:=p.cut b.1 F B;let A7:=p.leN B 0;let A9:=p.leN Z (p.len E);let B1:=p.leN (p.add S C) (p.len b.1);let B6:=p.and L (p.and U A7);
 opt.need _ (bif (p.cmp .geq O T) then (p.cmp .lss O R) else Bool.false)<|
 opt.need _ (p.rowOk b.1 G [ci,ci,(CK.list 1),ci])<|
 opt.need _ (p.and (p.leN (p.add 0 1) (p.len M)) (p.and (p.leN (p.add 0 A4) A4) (p.and (p.leN 1 1) (p.leN (p.add A4 1) 1000000))))<|
 opt.need _ (p.and (p.cmp .geq T T) (p.and (p.cmp .leq T O) (p.cmp .leq O R)))<|
 opt.ask _ (p.leN K 0) (
 opt.need _ (p.and B1 (p.and A6 A6))<|
 opt.need _ H<|
 opt.ask _ A7 (
 opt.ask _ (p.leN B3 0) (
 opt.need _ B6<|
 opt.need _ A9<|
 opt.need _ V<|
 opt.need _ J<|
 opt.ret _ (E,Q)) (
 opt.need _ B6<|
 opt.need _ A9<|
 opt.need _ V<|
 opt.need _ J<|
 opt.ret _ (E,Q))) (
 opt.ask _ (p.leN B3 0) (
 opt.need _ (p.and L (p.and U (p.and (p.leN 1 B) A9)))<|
 opt.need _ (p.leN Z (p.len (p.splice E A8 A5)))<|
 opt.need _ V<|
 opt.need _ J<|
 opt.ret _ ((p.splice E A8 A5),N)) (
 opt.need _ (p.and L (p.and U A2))<|
 opt.need _ V<|
 opt.need _ J<|
 opt.ret _ ((p.app (p.cut E 0 K) A5),N)))) (
 opt.need _ (p.and B1 (p.and A6 (p.and (p.leN 1 C) (p.leN K 1000000))))<|
 opt.need _ H<|
 opt.ask _ A7 (
 opt.need _ (p.and L (p.and (p.leN A8 (p.len I)) A7))<|
 opt.need _ V<|
 opt.need _ J<|
 opt.ret _ (I,Q)) (
 opt.need _ (p.and L (p.and (p.leN A8 (p.len I)) A2))<|
 opt.need _ V<|
 opt.need _ J<|
 opt.ret _ ((p.app (p.cut I 0 K) A5),N))))) fun c=>
 opt.need _ V<|
 opt.need _ (p.eqN (p.len c.2.1) (p.len c.2.1))<|
 opt.ret _ (Sum.inl (c.1,(c.2.1,(c.2.2.1,(c.2.2.2.1,(c.2.2.2.2.1,(c.2.2.2.2.2.1,((p.ar .add .i64 c.2.2.2.2.2.2.1 (1:Int)),()))))))))) (
 opt.need _ V<|
 opt.need _ Y<|
 opt.ret _ (Sum.inr (a.2.1,(a.2.2.1,())))))
def G9:(p:Prim)→W21w→Option (W4w):=
 fun p x=>let A:=(0:Int);let N:=p.leN (p.add 0 0) (p.len []);let Q:=G16 p ();
 opt.bnd ((LD×(LD×W4w))) _ (
 opt.run ((LD×(LD×W4w))) (
 opt.bnd (W4w) _ (G41 p (x.1,())) fun a=>
 opt.ask _ (bif a.1 then Bool.false else Bool.true) (
 opt.ret _ (x.1,(x.2.1,(Bool.true,())))) (
 opt.ret _ (x.1,(x.2.1,((p.cmp .gtr (p.ofNat (p.len x.2.1)) (200:Int)),())))))) fun b=>let M:=p.add 0 (p.len b.1);let P:=([],(b.1,(b.2.1,(0,(M,(A,()))))));let R:=p.splice [] (p.add 0 0) b.1;
 opt.ask _ b.2.2.1 (
 opt.bnd (W4w) _ Q fun c=>
 opt.ret _ c) (
 opt.ask _ (p.leN M 0) (
 opt.need _ (p.and Bool.true (p.and N N))<|
 opt.need _ (p.leN (p.add 0 0) (p.len R))<|
 opt.bnd (W21w) _ (
 z5r (v9z p) (R,P)) fun d=>let L:=((p.cut d.1 0 (p.len d.1)),());
 opt.need _ (p.leN (p.add 0 (p.len d.1)) (p.len d.1))<|
 opt.bnd (W16w) _ (G35 p (d.2.1,L)) fun e=>let J:=p.cmp .eql e.1 A;
 opt.bnd (W8w) _ (G27 p d.2) fun f=>
 opt.bnd (W8w) _ (G27 p L) fun g=>let E:=p.and (p.leN (p.add 0 (p.len f.1)) (p.len f.1)) (p.and (p.leN (p.add 0 (p.len g.1)) (p.len g.1)) Bool.true);let H:=G33 p ((p.cut f.1 0 (p.len f.1)),((p.cut g.1 0 (p.len g.1)),()));
 opt.bnd (W8w) _ (G29 p d.2) fun h=>
 opt.bnd (W8w) _ (G29 p L) fun i=>let C:=p.and (p.leN (p.add 0 (p.len h.1)) (p.len h.1)) (p.and (p.leN (p.add 0 (p.len i.1)) (p.len i.1)) Bool.true);let F:=G34 p ((p.cut h.1 0 (p.len h.1)),((p.cut i.1 0 (p.len i.1)),()));
 opt.bnd (W4w) _ (
 opt.run (W4w) (
 opt.ask _ J (
 opt.ask _ (p.cmp .eql f.2.1 A) (
 opt.ask _ (p.cmp .eql g.2.1 A) (
 opt.ask _ (p.cmp .eql h.2.1 A) (
 opt.ask _ (p.cmp .eql i.2.1 A) (
 opt.need _ E<|
 opt.bnd (W4w) _ H fun j=>
 opt.ask _ (bif (p.bEq j.1 J) then Bool.true else Bool.false) (
 opt.need _ C<|
 opt.bnd (W4w) _ F fun k=>
 opt.ask _ (bif (p.bEq k.1 J) then Bool.true else Bool.false) (
 opt.bnd (W4w) _ Q fun l=>
 opt.ret _ l) (
 opt.ret _ (Bool.false,()))) (
 opt.ret _ (Bool.false,()))) (
 opt.ret _ (Bool.false,()))) (
 opt.ret _ (Bool.false,()))) (
 opt.ret _ (Bool.false,()))) (
 opt.ret _ (Bool.false,()))) (
 opt.ask _ (p.cmp .eql e.1 (24:Int)) (
 opt.ask _ (p.cmp .eql f.2.1 A) (
 opt.ask _ (p.cmp .eql g.2.1 A) (
 opt.ask _ (p.cmp .eql h.2.1 A) (
 opt.ask _ (p.cmp .eql i.2.1 A) (
 opt.need _ E<|
 opt.bnd (W4w) _ H fun m=>
 opt.ask _ (bif (p.bEq m.1 J) then Bool.true else Bool.false) (
 opt.need _ C<|
 opt.bnd (W4w) _ F fun n=>
 opt.ask _ (bif (p.bEq n.1 J) then Bool.true else Bool.false) (
 opt.bnd (W4w) _ Q fun o=>
 opt.ret _ o) (
 opt.ret _ (Bool.false,()))) (
 opt.ret _ (Bool.false,()))) (
 opt.ret _ (Bool.false,()))) (
 opt.ret _ (Bool.false,()))) (
 opt.ret _ (Bool.false,()))) (
 opt.ret _ (Bool.false,()))) (
 opt.ret _ (Bool.false,()))))) fun q=>
 opt.ret _ q) (
 opt.need _ (p.and Bool.true (p.and N (p.and (p.leN 1 (p.len b.1)) (p.leN M 1000000))))<|
 opt.bnd (W21w) _ (
 z5r (v5q p) ((p.app (p.cut [] 0 0) b.1),P)) fun r=>let K:=((p.cut r.1 0 (p.len r.1)),());
 opt.need _ (p.leN (p.add 0 (p.len r.1)) (p.len r.1))<|
 opt.bnd (W16w) _ (G35 p (r.2.1,K)) fun t=>let I:=p.cmp .eql t.1 A;
 opt.bnd (W8w) _ (G27 p r.2) fun u=>
 opt.bnd (W8w) _ (G27 p K) fun v=>let B:=p.and (p.leN (p.add 0 (p.len u.1)) (p.len u.1)) (p.and (p.leN (p.add 0 (p.len v.1)) (p.len v.1)) Bool.true);let G:=G33 p ((p.cut u.1 0 (p.len u.1)),((p.cut v.1 0 (p.len v.1)),()));
 opt.bnd (W8w) _ (G29 p r.2) fun w=>let O:=p.len w.1;
 opt.bnd (W8w) _ (G29 p K) fun z=>
 opt.bnd (W4w) _ (
 opt.run (W4w) (
 opt.ask _ I (
 opt.ask _ (p.cmp .eql u.2.1 A) (
 opt.ask _ (p.cmp .eql v.2.1 A) (
 opt.ask _ (p.cmp .eql w.2.1 A) (
 opt.ask _ (p.cmp .eql z.2.1 A) (
 opt.need _ B<|
 opt.bnd (W4w) _ G fun a1=>
 opt.ask _ (bif (p.bEq a1.1 I) then Bool.true else Bool.false) (
 opt.need _ (p.and (p.leN (p.add 0 O) O) (p.and (p.leN (p.add 0 (p.len z.1)) (p.len z.1)) Bool.true))<|
 opt.bnd (W4w) _ (G34 p ((p.cut w.1 0 O),((p.cut z.1 0 (p.len z.1)),()))) fun b1=>
 opt.ask _ (bif (p.bEq b1.1 I) then Bool.true else Bool.false) (
 opt.bnd (W4w) _ Q fun c1=>
 opt.ret _ c1) (
 opt.ret _ (Bool.false,()))) (
 opt.ret _ (Bool.false,()))) (
 opt.ret _ (Bool.false,()))) (
 opt.ret _ (Bool.false,()))) (
 opt.ret _ (Bool.false,()))) (
 opt.ret _ (Bool.false,()))) (
 opt.ask _ (p.cmp .eql t.1 (24:Int)) (
 opt.ask _ (p.cmp .eql u.2.1 A) (
 opt.ask _ (p.cmp .eql v.2.1 A) (
 opt.ask _ (p.cmp .eql w.2.1 A) (
 opt.ask _ (p.cmp .eql z.2.1 A) (
 opt.need _ B<|
 opt.bnd (W4w) _ G fun d1=>
 opt.ask _ (bif (p.bEq d1.1 I) then Bool.true else Bool.false) (
 opt.need _ (p.and (p.leN (p.add 0 O) O) (p.and (p.leN (p.add 0 (p.len z.1)) (p.len z.1)) Bool.true))<|
 opt.bnd (W4w) _ (G34 p ((p.cut w.1 0 O),((p.cut z.1 0 (p.len z.1)),()))) fun e1=>
 opt.ask _ (bif (p.bEq e1.1 I) then Bool.true else Bool.false) (
 opt.bnd (W4w) _ Q fun f1=>
 opt.ret _ f1) (
 opt.ret _ (Bool.false,()))) (
 opt.ret _ (Bool.false,()))) (
 opt.ret _ (Bool.false,()))) (
 opt.ret _ (Bool.false,()))) (
 opt.ret _ (Bool.false,()))) (
 opt.ret _ (Bool.false,()))) (
 opt.ret _ (Bool.false,()))))) fun g1=>
 opt.ret _ g1))
theorem ok9:CtrOk PG ctr9 (G9 std):=okF vE1000004 (a:=an9) (l:=la9) (gC ok29 (gC ok27 (gC ok34 (gC ok33 (gC ok35 (gC ok16 (gC ok41 (gN))))))))
end Go.Am
end
section
namespace Go.Am
namespace D12
structure Sg where
 a:Nat
 b:Nat
 ha:a<2 ^ 64
 hb:b<2 ^ 64
def Sg.has (s:Sg) (i:Nat):Bool:=if i<64 then s.a.testBit i else s.b.testBit (i - 64)
def Sg.none:Sg:=⟨0,0,by omega,by omega⟩
def Sg.wth (s:Sg) (k:Nat):Sg:=
 if h:k<64 then ⟨s.a|||2 ^ k,s.b,Nat.or_lt_two_pow s.ha (eDu (by omega) h),s.hb⟩
 else if h:k<128 then ⟨s.a,s.b|||2 ^ (k - 64),s.ha,Nat.or_lt_two_pow s.hb (eDu (by omega) (by omega))⟩
 else s
def Sg.or (s t:Sg):Sg:=⟨s.a|||t.a,s.b|||t.b,Nat.or_lt_two_pow s.ha t.ha,Nat.or_lt_two_pow s.hb t.hb⟩
def Sg.and (s t:Sg):Sg:=⟨s.a&&&t.a,s.b&&&t.b,Nat.lt_of_le_of_lt Nat.and_le_left s.ha,Nat.lt_of_le_of_lt Nat.and_le_left s.hb⟩
theorem Sg.has_none (i:Nat):Sg.none.has i=false:=by
 unfold Sg.has Sg.none; split<;>exact Nat.zero_testBit _
theorem Sg.has_wth (s:Sg) {k:Nat} (hk:k<128) (i:Nat):(s.wth k).has i=(s.has i||decide (i=k)):=by
 unfold Sg.wth
 by_cases h:k<64
 ·rw [dif_pos h]
  unfold Sg.has
  simp only
  by_cases hi:i<64
  ·rw [if_pos hi,if_pos hi,Nat.testBit_or,Nat.testBit_two_pow]
   congr 1
   exact decide_eq_decide.2 ⟨fun h=>h.symm,fun h=>h.symm⟩
  ·rw [if_neg hi,if_neg hi]
   have:¬ i=k:=by omega
   simp [this]
 ·rw [dif_neg h,dif_pos hk]
  unfold Sg.has
  simp only
  by_cases hi:i<64
  ·rw [if_pos hi,if_pos hi]
   have:¬ i=k:=by omega
   simp [this]
  ·rw [if_neg hi,if_neg hi,Nat.testBit_or,Nat.testBit_two_pow]
   congr 1
   exact decide_eq_decide.2 (by omega)
theorem Sg.has_and (s t:Sg) (i:Nat):(s.and t).has i=(s.has i&&t.has i):=by
 unfold Sg.has Sg.and
 simp only
 split<;>exact Nat.testBit_and ..
theorem Sg.ext_has {s t:Sg} (h:∀ i,i<128→s.has i=t.has i):s.a=t.a∧s.b=t.b:=by
 constructor
 ·refine Nat.eq_of_testBit_eq fun i=>?_
  by_cases hi:i<64
  ·have:=h i (by omega)
   unfold Sg.has at this
   rwa [if_pos hi,if_pos hi] at this
  ·have p:2 ^ 64≤2 ^ i:=Nat.pow_le_pow_right (by omega) (by omega)
   rw [Nat.testBit_lt_two_pow (eAn s.ha p),Nat.testBit_lt_two_pow (eAn t.ha p)]
 ·refine Nat.eq_of_testBit_eq fun i=>?_
  by_cases hi:i<64
  ·have:=h (i+64) (by omega)
   unfold Sg.has at this
   rwa [if_neg (by omega),if_neg (by omega),Nat.add_sub_cancel] at this
  ·have p:2 ^ 64≤2 ^ i:=Nat.pow_le_pow_right (by omega) (by omega)
   rw [Nat.testBit_lt_two_pow (eAn s.hb p),Nat.testBit_lt_two_pow (eAn t.hb p)]
theorem Sg.and_sub {s t:Sg}:((s.and t).a=s.a∧(s.and t).b=s.b)↔∀ i,i<128→s.has i=true→t.has i=true:=by
 constructor
 ·rintro ⟨h1,h2⟩ i hi h
  have e:(s.and t).has i=s.has i:=by unfold Sg.has; rw [h1,h2]
  rw [Sg.has_and,h] at e
  simpa using e
 ·intro h
  refine Sg.ext_has fun i hi=>?_
  rw [Sg.has_and]
  cases hs:s.has i with
  |false=>rfl
  |true=>rw [h i hi hs]; rfl
end D12
theorem v4h {n:Nat} (h:n<2 ^ 64):IntKind.u64.wrap (n:Int)=(n:Int):=by
 have e:IntKind.u64.wrap (n:Int)=(n:Int) % 18446744073709551616:=by
  unfold IntKind.wrap
  simp [IntKind.signed,IntKind.bits]
 rw [e]
 omega
theorem ofI (n:Nat):BitVec.ofInt 64 (n:Int)=BitVec.ofNat 64 n:=by simp
theorem u1j {a b:Nat} (ha:a<2 ^ 64) (hb:b<2 ^ 64):std.ar .or .u64 (a:Int) (b:Int)=((a|||b:Nat):Int):=by
 show IntKind.u64.wrap (((BitVec.ofInt 64 (a:Int)|||BitVec.ofInt 64 (b:Int)).toNat:Nat):Int)=_
 rw [ofI,ofI,BitVec.toNat_or,BitVec.toNat_ofNat,BitVec.toNat_ofNat,eCy ha,eCy hb,v4h (Nat.or_lt_two_pow ha hb)]
theorem v7p {a b:Nat} (ha:a<2 ^ 64) (hb:b<2 ^ 64):std.ar .and .u64 (a:Int) (b:Int)=((a&&&b:Nat):Int):=by
 show IntKind.u64.wrap (((BitVec.ofInt 64 (a:Int)&&&BitVec.ofInt 64 (b:Int)).toNat:Nat):Int)=_
 rw [ofI,ofI,BitVec.toNat_and,BitVec.toNat_ofNat,BitVec.toNat_ofNat,eCy ha,eCy hb,v4h (Nat.lt_of_le_of_lt Nat.and_le_left ha)]
theorem v8m {i:Nat} (h:i<64):std.ar .shl .u64 1 (i:Int)=((2 ^ i:Nat):Int):=by
 show IntKind.u64.wrap (1*2 ^ (min ((i:Int)).toNat 64))=_
 have:min ((i:Int)).toNat 64=i:=by omega
 rw [this,Int.one_mul]
 have e:((2:Int) ^ i)=((2 ^ i:Nat):Int):=by simp
 rw [e,v4h (eDu (by omega) h)]
theorem v8n {a i:Nat} (ha:a<2 ^ 64) (h:i<64):std.cmp .eql (std.ar .and .u64 (std.ar .shr .u64 (a:Int) (i:Int)) 1) 1=a.testBit i:=by
 have e1:std.ar .shr .u64 (a:Int) (i:Int)=((a / 2 ^ i:Nat):Int):=by
  show Int.fdiv (a:Int) (2 ^ (min ((i:Int)).toNat 64))=_
  have:min ((i:Int)).toNat 64=i:=by omega
  rw [this]
  have e:((2:Int) ^ i)=((2 ^ i:Nat):Int):=by simp
  rw [e,Int.fdiv_eq_ediv_of_nonneg _ (Int.natCast_nonneg _)]
  exact (Int.natCast_ediv ..).symm
 have hd:a / 2 ^ i<2 ^ 64:=Nat.lt_of_le_of_lt (Nat.div_le_self ..) ha
 rw [e1,show (1:Int)=((1:Nat):Int) from rfl,v7p hd (by omega),Nat.and_one_is_mod,v4j,Nat.testBit_eq_decide_div_mod_eq]
 exact decide_eq_decide.2 (by omega)
theorem v8x {i:Nat} (h:i<128):std.ar .quo .i64 (i:Int) 64=if i<64 then 0 else 1:=by
 rw [v5d,Int.tdiv_eq_ediv_of_nonneg (by omega),w21 _ (by omega) (by omega)]
 split<;>omega
theorem v8w {i:Nat} (h:i<128):std.ar .rem .i64 (i:Int) 64=((if i<64 then i else i - 64:Nat):Int):=by
 rw [v21,Int.tmod_eq_emod_of_nonneg (by omega)]
 split<;>omega
end Go.Am
end
section
namespace Go.Am
section
variable {κ ν:Type} [DecidableEq κ]
def v4g:List (κ×ν)→κ→Nat→Option (Nat×ν)
 |[],_,_=>none
 |(k',v)::r,k,i=>if k=k' then some (i,v) else v4g r k (i+1)
def z23:List (κ×ν)→κ→Option ν
 |[],_=>none
 |(k',v)::r,k=>if k=k' then some v else z23 r k
def v8b:List (κ×ν)→κ→ν→List (κ×ν)
 |[],_,_=>[]
 |(k',w)::r,k,v=>if k=k' then (k,v)::r else (k',w)::v8b r k v
def v6m:List (κ×ν)→κ→List (κ×ν)
 |[],_=>[]
 |(k',w)::r,k=>if k=k' then r else (k',w)::v6m r k
def v32 (m:List (κ×ν)) (k:κ) (v:ν):List (κ×ν):=match z23 m k with
 |some _=>v8b m k v
 |none=>m++[(k,v)]
theorem v20 (k:κ):∀ (m:List (κ×ν)) (i:Nat),(v4g m k i).map (·.2)=z23 m k
 |[],i=>rfl
 |(k',v)::r,i=>by
  simp only [v4g,z23]
  split
  ·rfl
  ·exact v20 k r (i+1)
theorem v4p {k:κ}:∀ {m:List (κ×ν)} {i j:Nat} {v:ν},v4g m k i=some (j,v)→i≤j∧j<i+m.length
 |(k',w)::r,i,j,v,h=>by
  simp only [v4g] at h
  split at h
  ·cases h; simp
  ·have:=v4p h; simp only [eBi]; omega
theorem v5a {k:κ}:∀ {m:List (κ×ν)} {i j:Nat} {v:ν},v4g m k i=some (j,v)→∀ w,m.set (j - i) (k,w)=v8b m k w
 |(k',u)::r,i,j,v,h,w=>by
  simp only [v4g] at h
  simp only [v8b]
  split at h
  ·rename_i e; cases h; rw [if_pos e,eDm]; rfl
  ·rename_i e
   have:=v4p h
   rw [if_neg e, ←v5a h w]
   have:j - i=(j - (i+1))+1:=by omega
   rw [this]; rfl
theorem v5b {k:κ}:∀ {m:List (κ×ν)} {i j:Nat} {v:ν},v4g m k i=some (j,v)→m.eraseIdx (j - i)=v6m m k
 |(k',u)::r,i,j,v,h=>by
  simp only [v4g] at h
  simp only [v6m]
  split at h
  ·rename_i e; cases h; rw [if_pos e,eDm]; rfl
  ·rename_i e
   have:=v4p h
   rw [if_neg e, ←v5b h]
   have:j - i=(j - (i+1))+1:=by omega
   rw [this]; rfl
theorem v47 (k:κ) (v:ν) (k':κ):∀ m:List (κ×ν),z23 (v8b m k v) k'=if k'=k then (z23 m k).map fun _=>v else z23 m k'
 |[]=>by simp [v8b,z23]
 |(x,w)::r=>by
  have ih:=v47 k v k' r
  simp only [v8b]
  by_cases h:k=x
  ·rw [if_pos h]; subst h
   by_cases h':k'=k
   ·simp [z23,h']
   ·simp [z23,h']
  ·rw [if_neg h]
   simp only [z23]
   rw [ih]
   by_cases h':k'=x
   ·subst h'
    rw [if_pos rfl,if_neg (fun e=>h e.symm)]
    simp
   ·rw [if_neg h']
    by_cases h'':k'=k
    ·subst h''; rw [if_pos rfl,if_pos rfl,if_neg h]
    ·rw [if_neg h'',if_neg h'',if_neg h']
theorem v3j (k':κ) (l:List (κ×ν)):∀ m:List (κ×ν),z23 (m++l) k'=(z23 m k').or (z23 l k')
 |[]=>by simp [z23]
 |(x,w)::r=>by
  simp only [List.cons_append,z23,v3j k' l r]
  split<;>rfl
theorem z63 (m:List (κ×ν)) (k:κ) (v:ν) (k':κ):z23 (v32 m k v) k'=if k'=k then some v else z23 m k':=by
 unfold v32
 cases h:z23 m k with
 |some w=>simp only [v47,h,eBh]
 |none=>
  simp only [v3j,z23]
  by_cases e:k'=k
  ·subst e; simp [h]
  ·simp [e]
theorem z85 {k:κ}:∀ {m:List (κ×ν)},z23 m k=none↔k∉m.map (·.1)
 |[]=>by simp [z23]
 |(x,w)::r=>by
  simp only [z23,List.map_cons,eAz,not_or]
  split
  ·rename_i h; simp [h]
  ·rename_i h; simp only [z85 (m:=r)]; simp [h]
theorem v5c (k:κ):∀ (m:List (κ×ν)),((v6m m k).map (·.1)).Sublist (m.map (·.1))
 |[]=> .slnil
 |(x,w)::r=>by
  simp only [v6m]
  split
  ·exact List.sublist_cons_self _ _
  ·exact (v5c k r).cons_cons _
theorem v49 {k:κ} (k':κ):∀ {m:List (κ×ν)},(m.map (·.1)).Nodup→z23 (v6m m k) k'=if k'=k then none else z23 m k'
 |[],_=>by simp [v6m,z23]
 |(x,w)::r,h=>by
  simp only [List.map_cons,List.nodup_cons] at h
  have ih:=v49 (k:=k) k' h.2
  simp only [v6m]
  by_cases e:k=x
  ·rw [if_pos e]; subst e
   simp only [z23]
   by_cases e':k'=k
   ·subst e'; rw [if_pos rfl]; exact z85.2 h.1
   ·rw [if_neg e',if_neg e']
  ·rw [if_neg e]
   simp only [z23,ih]
   by_cases e':k'=x
   ·subst e'; rw [if_pos rfl,if_neg (fun h=>e h.symm),if_pos rfl]
   ·rw [if_neg e',if_neg e']
end
structure v5r (κ ν:Type) where
 ke:κ→D
 ve:ν→D
 ks:List SK
 ka:Bool
 va:Bool
 ck:List CK
structure v5r.Ok {κ ν:Type} [DecidableEq κ] (E:v5r κ ν):Prop where
 agg:∀ k,z1h (E.ke k)=E.ka
 kinds:∀ k,z04 E.ks (z0q (E.ke k))=true
 eq:∀ a b,z9f E.ks (z0q (E.ke a)) (z0q (E.ke b))=some (decide (a=b))
 vagg:∀ v,z1h (E.ve v)=E.va
 vok:∀ v,z3k E.ck (z0q (E.ve v))=true
def v5r.enc {κ ν:Type} (E:v5r κ ν) (m:List (κ×ν)):List (D×D):=m.map fun e=>(E.ke e.1,E.ve e.2)
section
variable {κ ν:Type} [DecidableEq κ] {E:v5r κ ν} (h:E.Ok)
include h
theorem v3c (k:κ):∀ (m:List (κ×ν)) (i:Nat),x0l E.ks E.ka (E.ke k) (E.enc m) i=some ((v4g m k i).map fun x=>(x.1,E.ve x.2))
 |[],i=>rfl
 |(k',v)::r,i=>by
  have ih:=v3c k r (i+1)
  unfold v5r.enc at ih⊢
  simp only [List.map_cons,x0l,h.agg,beq_self_eq_true,eDn,cond_true,h.eq,v4g]
  by_cases e:k=k'
  ·simp [e]
  ·simp [e,ih]
theorem v52 (m:List (κ×ν)) (k:κ):std.mOk (E.enc m) E.ks E.ka (E.ke k) E.va E.ck=true:=by
 show ((z1h (E.ke k)==E.ka)&&z04 E.ks (z0q (E.ke k))&&match x0l E.ks E.ka (E.ke k) (E.enc m) 0 with|some none=>true|some (some (_,v))=>(z1h v==E.va)&&z3k E.ck (z0q v)|none=>false)=true
 rw [v3c h,h.agg,h.kinds]
 cases v4g m k 0 with
 |none=>simp
 |some x=>simp [h.vagg,h.vok]
theorem v27 (m:List (κ×ν)) (k:κ):w4n (E.enc m) E.ks E.ka (E.ke k)=(v4g m k 0).map fun x=>(x.1,E.ve x.2):=by
 unfold w4n; rw [v3c h]; rfl
theorem v4y (m:List (κ×ν)) (k:κ):std.mhas (E.enc m) E.ks E.ka (E.ke k)=(z23 m k).isSome:=by
 show (w4n _ _ _ _).isSome=_
 rw [v27 h, ←v20 k m 0]; simp
theorem v4a (m:List (κ×ν)) (k:κ) (j:Nat) {v:ν} (hv:z23 m k=some v):x2i (E.enc m) E.ks E.ka (E.ke k) j=((z0q (E.ve v))[j]?).getD .nilp:=by
 unfold x2i
 rw [v27 h]
 rw [←v20 k m 0] at hv
 cases ha:v4g m k 0 with
 |none=>rw [ha] at hv; cases hv
 |some x=>rw [ha] at hv; cases hv; rfl
theorem v40 (m:List (κ×ν)) (k:κ) (j:Nat) {v:ν} (hv:z23 m k=some v):std.mI (E.enc m) E.ks E.ka (E.ke k) j=dI (((z0q (E.ve v))[j]?).getD .nilp):=by
 show dI (x2i _ _ _ _ _)=_
 rw [v4a h m k j hv]
theorem v6r (m:List (κ×ν)) (k:κ) {v:ν} (hv:z23 m k=some v) (w:ν):std.mset (E.enc m) (std.nat (std.ofNat (std.mpos (E.enc m) E.ks E.ka (E.ke k)))) (E.ke k) (E.ve w)=E.enc (v32 m k w):=by
 show (E.enc m).set (Int.toNat ((((w4n (E.enc m) E.ks E.ka (E.ke k)).map (·.1)).getD 0:Nat):Int)) (E.ke k,E.ve w)=_
 rw [v27 h]
 have hv':=hv
 rw [←v20 k m 0] at hv
 cases ha:v4g m k 0 with
 |none=>rw [ha] at hv; cases hv
 |some x=>
  obtain ⟨j,u⟩:=x
  simp only [eBh,eBk,eCh,v32,hv',v5r.enc]
  rw [←v5a ha w,eDr,List.map_set]
theorem v4z (m:List (κ×ν)) (k:κ) (hv:z23 m k=none) (w:ν):std.madd (E.enc m) (E.ke k) (E.ve w)=E.enc (v32 m k w):=by
 show E.enc m++[(E.ke k,E.ve w)]=_
 simp [v32,hv,v5r.enc]
theorem v6s (m:List (κ×ν)) (k:κ) {v:ν} (hv:z23 m k=some v):std.mdel (E.enc m) (std.nat (std.ofNat (std.mpos (E.enc m) E.ks E.ka (E.ke k))))=E.enc (v6m m k):=by
 show (E.enc m).eraseIdx (Int.toNat ((((w4n (E.enc m) E.ks E.ka (E.ke k)).map (·.1)).getD 0:Nat):Int))=_
 rw [v27 h]
 rw [←v20 k m 0] at hv
 cases ha:v4g m k 0 with
 |none=>rw [ha] at hv; cases hv
 |some x=>
  obtain ⟨j,u⟩:=x
  simp only [eBh,eBk,eCh,v5r.enc]
  rw [←v5b ha,eDr]
  apply eBd
  intro i
  simp only [List.getElem?_eraseIdx,eAg]
  split<;>rfl
end
end Go.Am
end
section
namespace Go.Am
open D12
variable {fl fl':List Int→Bool}
theorem v9q (s:Sg) (i:Nat) (h:i<128):G74 std ((s.a:Int),((s.b:Int),((i:Int),())))=some (s.has i,()):=by
 have q:=v8x h
 have r:=v8w h
 unfold G74 Sg.has
 by_cases h6:i<64
 ·rw [if_pos h6] at q r⊢
  have hb:=v8n s.ha h6
  rw [v4j] at hb
  have r0:(0:Int)≤((i:Nat):Int):=by omega
  simp [z2d,z2e,z4b,Int.reduceLT,Int.reduceEq,Int.reduceLE,q,r,hb,r0]
 ·rw [if_neg h6] at q r⊢
  have hb:=v8n s.hb (show i - 64<64 by omega)
  rw [v4j] at hb
  have r0:(0:Int)≤((i - 64:Nat):Int):=by omega
  simp [z2d,z2e,z4b,Int.reduceLT,Int.reduceEq,Int.reduceLE,q,r,hb,r0]
theorem v7m (s:Sg) (i:Nat) (h:i<128):G72 std ((s.a:Int),((s.b:Int),((i:Int),())))=some (((s.wth i).a:Int),(((s.wth i).b:Int),())):=by
 have q:=v8x h
 have r:=v8w h
 unfold G72 Sg.wth
 by_cases h6:i<64
 ·rw [if_pos h6] at q r
  rw [dif_pos h6]
  have hb:=u1j s.ha (eDu (by omega) h6:2 ^ i<2 ^ 64)
  have hs:=v8m h6
  have r0:(0:Int)≤((i:Nat):Int):=by omega
  have t0:(0:Int)<((2:Nat):Int):=by omega
  have t1:(1:Int)<((2:Nat):Int):=by omega
  simp only [z2d,z2e,z4b,Int.reduceLT,Int.reduceEq,Int.reduceLE,q,r,hs,hb,r0,t0,t1]
 ·rw [if_neg h6] at q r
  rw [dif_neg h6,dif_pos h]
  have h7:i - 64<64:=by omega
  have hb:=u1j s.hb (eDu (by omega) h7:2 ^ (i - 64)<2 ^ 64)
  have hs:=v8m h7
  have r0:(0:Int)≤((i - 64:Nat):Int):=by omega
  have t0:(0:Int)<((2:Nat):Int):=by omega
  have t1:(1:Int)<((2:Nat):Int):=by omega
  simp only [z2d,z2e,z4b,Int.reduceLT,Int.reduceEq,Int.reduceLE,q,r,hs,hb,r0,t0,t1]
theorem v9h (a b c d e f:Int):v44 std (a,(b,(c,(d,(e,(f,((0:Int),())))))))=some (.inl (std.ar .and .u64 a c,(b,(c,(d,(e,(f,((1:Int),())))))))):=rfl
theorem v9g (a b c d e f:Int):v44 std (a,(b,(c,(d,(e,(f,((1:Int),())))))))=some (.inl (a,(std.ar .and .u64 b d,(c,(d,(e,(f,((2:Int),())))))))):=rfl
theorem v9f (a b c d e f:Int):v44 std (a,(b,(c,(d,(e,(f,((2:Int),())))))))=some (.inr (a,(b,(e,(f,()))))):=rfl
theorem v8g (s t:Sg):v9x std ((s.a:Int),((s.b:Int),((t.a:Int),((t.b:Int),()))))=some (((s.and t).a:Int),(((s.and t).b:Int),())):=by
 unfold v9x
 rw [z7m,v9h]
 simp only []
 rw [z7m,v9g]
 simp only []
 rw [z7m,v9f,v7p s.ha t.ha,v7p s.hb t.hb]
 rfl
theorem v8i (l:List Int) (h1:1≤l.length) (h2:l.length≤1000000):v9y std (z1a l,())=some (z1a l,()):=by
 unfold v9y
 have e0:(z1a l).length=l.length:=z00 l
 have h3:¬ l.length≤0:=by omega
 have h4:(z1a l).take l.length=z1a l:=by rw [←e0,eDi]
 simp only [z2d,z2e,z4b,Int.reduceLT,Int.reduceEq,Int.reduceLE,e0,h1,h2,h3,List.take_nil,List.drop_nil,eDd,eDb,eAp,eAk,eAt,h4]
theorem v9p (c:Cd) (h1:1≤c.t.length) (h2:c.t.length≤1000000):G75 std (c.n,(c.k,(z1a c.t,(c.a,()))))=some (c.n,(c.k,(z1a c.t,(c.a,())))):=by
 unfold G75
 have:=v8i c.t h1 h2
 simp only [z2d,z2e,this]
def eS (s:Sg):List D:=[.int .u64 (s.a:Int), .int .u64 (s.b:Int)]
def z35 (l:List Sg):List (List D):=l.map eS
theorem v6y (l:List Sg):(z35 l).length=l.length:=by simp [z35]
theorem z51 (s:Sg):z3k [CK.int IntKind.u64,CK.int IntKind.u64] (eS s)=true:=rfl
theorem v3h (s:Sg):dI ((eS s)[0]?.getD D.nilp)=(s.a:Int):=rfl
theorem v3g (s:Sg):dI ((eS s)[1]?.getD D.nilp)=(s.b:Int):=rfl
theorem v6x (l:List Sg) (i:Nat) (s:Sg):(z35 l).set i (eS s)=z35 (l.set i s):=by simp [z35,List.map_set]
def EX:v5r Int Nat:=⟨fun k=> .int .i64 k,fun v=> .int .i64 (v:Int),[.i],false,false,[.int .i64]⟩
theorem v6n:EX.Ok where
 agg _:=rfl
 kinds _:=rfl
 eq:=fun a b=>by
  show (bif IntKind.i64==IntKind.i64 then (some (z3o .eql a b&&true)) else none)=_
  rw [eCc]; rfl
 vagg _:=rfl
 vok _:=rfl
def z46 (m:List (Int×Nat)):List (D×D):=EX.enc m
section
variable (m:List (Int×Nat)) (x:Int)
theorem v7c:std.mOk (z46 m) [SK.i] false (.int .i64 x) false [.int .i64]=true:=v52 v6n m x
theorem v33:std.mhas (z46 m) [SK.i] false (.int .i64 x)=(z23 m x).isSome:=v4y v6n m x
variable {m x}
theorem v8c {v:Nat} (h:z23 m x=some v):std.mI (z46 m) [SK.i] false (.int .i64 x) 0=(v:Int):=v40 v6n m x 0 h
theorem v9i {v:Nat} (h:z23 m x=some v) (w:Nat):std.mset (z46 m) (std.mpos (z46 m) [SK.i] false (.int .i64 x)) (.int .i64 x) (.int .i64 (w:Int))=z46 (v32 m x w):=v6r v6n m x h w
theorem v8d (h:z23 m x=none) (w:Nat):std.madd (z46 m) (.int .i64 x) (.int .i64 (w:Int))=z46 (v32 m x w):=v4z v6n m x h w
end
end Go.Am
end
section
namespace Go.Am
theorem z37 {S R τ α:Type} {b:S→Option (S⊕R)} (l:List α) (e:τ→Nat→S) (f:τ→α→τ) (I:τ→Nat→Prop) (r:τ→R)
  (step:∀ t i x,l[i]?=some x→I t i→b (e t i)=some (.inl (e (f t x) (i+1)))∧I (f t x) (i+1))
  (stop:∀ t,I t l.length→b (e t l.length)=some (.inr (r t))) (t:τ) (h:I t 0):z5r b (e t 0)=some (r (l.foldl f t))∧I (l.foldl f t) l.length:=by
 have key:∀ (q:List α) (i:Nat) (t:τ),l.drop i=q→i≤l.length→I t i→z5r b (e t i)=some (r (q.foldl f t))∧I (q.foldl f t) l.length:=by
  intro q
  induction q with
  |nil=>
   intro i t hq hi hI
   have:i=l.length:=by have:=List.drop_eq_nil_iff.1 hq; omega
   subst this
   rw [z7m,stop t hI]
   exact ⟨rfl,hI⟩
  |cons x q ih=>
   intro i t hq hi hI
   have hx:l[i]?=some x:=by rw [←List.head?_drop,hq]; rfl
   have hlt:i<l.length:=(eAd.1 hx).1
   obtain ⟨h1,h2⟩:=step t i x hx hI
   have hq':l.drop (i+1)=q:=by rw [←eCw,hq]; rfl
   rw [z7m,h1]
   exact ih (i+1) (f t x) hq' hlt h2
 exact key l 0 t rfl (eAv _) h
namespace D12
def v4o (g:List Cd) (c:Cd):List Cd:=if (g.any fun d=>decide (d.n=c.n))=true then g else g++[c]
def z31 (dks:List (List Cd)):List Cd:=dks.foldl (fun g l=>l.foldl v4o g) []
def ixM (g:List Cd):List (Int×Nat):=(g.map (·.n)).zipIdx
def gi (g:List Cd) (c:Cd):Nat:=(g.map (·.n)).idxOf c.n
theorem v46 (x:Int):∀ (l:List Int) (k:Nat),z23 (l.zipIdx k) x=if x∈l then some (k+l.idxOf x) else none
 |[],k=>by simp [z23]
 |y::l,k=>by
  rw [List.zipIdx_cons]
  simp only [z23,v46 x l (k+1),eAz,List.idxOf_cons]
  by_cases h:x=y
  ·subst h; simp
  ·have h':(y==x)=false:=by simpa using fun e=>h e.symm
   simp only [h,if_false,false_or,h',cond_false]
   split
   ·simp; omega
   ·rfl
theorem v7g (g:List Cd) (x:Int):z23 (ixM g) x=if x∈g.map (·.n) then some ((g.map (·.n)).idxOf x) else none:=by
 unfold ixM; rw [v46]; simp
theorem v7z {g:List Cd} {c:Cd} (h:c∈g):z23 (ixM g) c.n=some (gi g c):=by
 rw [v7g,if_pos (List.mem_map_of_mem h)]; rfl
theorem v8t (g:List Cd) (x:Int):(z23 (ixM g) x).isSome=g.any fun d=>decide (d.n=x):=by
 rw [v7g,eCu]
 by_cases h:x∈g.map (·.n)
 ·rw [if_pos h]
  obtain ⟨d,h1,h2⟩:=eBb.1 h
  simp only [Option.isSome_some,eCz,true_iff,decide_eq_true_eq]
  exact ⟨d,h1,h2⟩
 ·rw [if_neg h]
  simp only [Option.isSome_none,eCz,decide_eq_true_eq,eAi,false_iff]
  rintro ⟨d,h1,h2⟩
  exact h (eBb.2 ⟨d,h1,h2⟩)
theorem v8u {g:List Cd} {c:Cd} (h:z23 (ixM g) c.n=none):v32 (ixM g) c.n g.length=ixM (g++[c]):=by
 unfold v32; rw [h]
 unfold ixM
 rw [eDh,List.zipIdx_append]
 simp
theorem v6u {g:List Cd} {c:Cd} (h:c∈g):gi g c<g.length:=by
 have:=eDs (List.mem_map_of_mem (f:=fun c:Cd=>c.n) h)
 rwa [eBt] at this
theorem v41 {g:List Cd} {c:Cd} (hi:Inj g) (h:c∈g):g[gi g c]?=some c:=by
 have hl:=v6u h
 rw [eAa hl]
 congr 1
 refine hi _ (eCp hl) _ h ?_
 have e:=eDq (eDs (List.mem_map_of_mem (f:=fun c:Cd=>c.n) h))
 rw [List.getElem_map] at e
 exact e
theorem v5h {g:List Cd} {c:Cd} {i:Nat} (hn:(g.map (·.n)).Nodup) (h:g[i]?=some c):gi g c=i:=by
 obtain ⟨h1,h2⟩:=eAd.1 h
 have hi:=z24 hn
 have hm:c∈g:=eAu h
 have:=v41 hi hm
 obtain ⟨h3,h4⟩:=eAd.1 this
 have:=(List.getElem_inj (z32 hn) (h₀:=h3) (h₁:=h1)).1 (h4.trans h2.symm)
 exact this
def Rp (ss:List Sg) (g:List Cd) (B:Cd→Cd→Bool):Prop:=
 ss.length=g.length∧∀ i c,g[i]?=some c→∀ k,(ss.getD i Sg.none).has k=match g[k]? with|some d=>B d c|none=>false
theorem v7r (g:List Cd):Rp (List.replicate g.length Sg.none) g fun _ _=>false:=by
 refine ⟨by simp,fun i c hc k=>?_⟩
 have:(List.replicate g.length Sg.none).getD i Sg.none=Sg.none:=by
  rw [eCi,eCf]; split<;>rfl
 rw [this,Sg.has_none]
 split<;>rfl
theorem Rp.congr {ss:List Sg} {g:List Cd} {B C:Cd→Cd→Bool} (h:Rp ss g B) (hc:∀ d∈g,∀ c∈g,B d c=C d c):Rp ss g C:=by
 refine ⟨h.1,fun i c hi k=>?_⟩
 rw [h.2 i c hi k]
 cases hk:g[k]? with
 |none=>rfl
 |some d=>exact hc d (eAu hk) c (eAu hi)
def z22 (i:Nat) (s:List (Int×Nat)×List Sg) (x:Int):List (Int×Nat)×List Sg:=
 (v32 s.1 x i,match z23 s.1 x with|some k=>s.2.set i ((s.2.getD i Sg.none).wth k)|none=>s.2)
theorem v59 {α:Type} {l:List α} {i j:Nat} {a d:α} (h:j≠i):(l.set i a).getD j d=l.getD j d:=by
 rw [eCi,eCi,List.getElem?_set_ne (fun e=>h e.symm)]
theorem v6a {α:Type} {l:List α} {i:Nat} {a d:α} (h:i<l.length):(l.set i a).getD i d=a:=by
 rw [eCi,List.getElem?_set_self h]; rfl
theorem v5s (i:Nat):∀ (t:List Int) (L:List (Int×Nat)) (ss:List Sg),t.Nodup→i<ss.length→(∀ x k,z23 L x=some k→k<128)→i<128→
  (∀ x,z23 (t.foldl (z22 i) (L,ss)).1 x=if x∈t then some i else z23 L x)∧(t.foldl (z22 i) (L,ss)).2.length=ss.length∧
  (∀ j,j≠i→(t.foldl (z22 i) (L,ss)).2.getD j Sg.none=ss.getD j Sg.none)∧
  ∀ k,((t.foldl (z22 i) (L,ss)).2.getD i Sg.none).has k=((ss.getD i Sg.none).has k||t.any fun x=>decide (z23 L x=some k))
 |[],L,ss,_,_,_,_=>⟨fun x=>by simp,rfl,fun _ _=>rfl,fun k=>by simp⟩
 |x::t,L,ss,hn,hi,hL,h128=>by
  simp only [eDt]
  have hn':=List.nodup_cons.1 hn
  have hs:(z22 i (L,ss) x).2.length=ss.length:=by
   unfold z22; simp only; cases z23 L x<;>simp
  have ih:=v5s i t (z22 i (L,ss) x).1 (z22 i (L,ss) x).2 hn'.2 (by rw [hs]; exact hi) (by
   intro y k hy
   unfold z22 at hy
   simp only [z63] at hy
   split at hy
   ·cases hy; exact h128
   ·exact hL y k hy) h128
  obtain ⟨h1,h2,h3,h4⟩:=ih
  refine ⟨fun y=>?_,h2.trans hs,fun j hj=>?_,fun k=>?_⟩
  ·rw [h1 y]
   simp only [z22,z63,eAz]
   by_cases hy:y∈t
   ·simp [hy]
   ·by_cases hx:y=x
    ·simp [hx]
    ·simp [hy,hx]
  ·rw [h3 j hj]
   simp only [z22]
   cases z23 L x with
   |none=>rfl
   |some k=>exact v59 hj
  ·rw [h4 k]
   have e1:((z22 i (L,ss) x).2.getD i Sg.none).has k=((ss.getD i Sg.none).has k||decide (z23 L x=some k)):=by
    simp only [z22]
    cases hv:z23 L x with
    |none=>simp
    |some m=>
     simp only
     rw [v6a hi,Sg.has_wth _ (hL x m hv)]
     congr 1
     exact decide_eq_decide.2 ⟨fun h=>by rw [h],fun h=>by cases h; rfl⟩
   have e2:(t.any fun y=>decide (z23 (z22 i (L,ss) x).1 y=some k))=t.any fun y=>decide (z23 L y=some k):=by
    have:∀ y∈t,decide (z23 (z22 i (L,ss) x).1 y=some k)=decide (z23 L y=some k):=by
     intro y hy
     simp only [z22,z63]
     have:y≠x:=fun e=>hn'.1 (e▸hy)
     simp [this]
    rw [eCu,eCz,eCz]
    constructor
    ·rintro ⟨y,hy,h⟩; exact ⟨y,hy,by rw [←this y hy]; exact h⟩
    ·rintro ⟨y,hy,h⟩; exact ⟨y,hy,by rw [this y hy]; exact h⟩
   rw [e1,e2,List.any_cons,Bool.or_assoc]
def v3r (g:List Cd) (s:List (Int×Nat)×List Sg) (c:Cd):List (Int×Nat)×List Sg:=c.t.foldl (z22 (gi g c)) s
structure v7e (g:List Cd) (B0:Cd→Cd→Bool) (p:List Cd) (s:List (Int×Nat)×List Sg):Prop where
 last:∀ x,z23 s.1 x=(on x p).getLast?.map (gi g)
 rel:Rp s.2 g fun d c=>B0 d c||ltc p d c
theorem v4t {p:List Cd} {c e:Cd} (h:e∈p):pre (p++[c]) e=pre p e:=by
 unfold pre
 have h1:=eDs h
 rw [List.idxOf_append,if_pos h,List.take_append_of_le_length (by omega)]
theorem v75 {g:List Cd} {B0:Cd→Cd→Bool} (hg:(g.map (·.n)).Nodup) (hl:g.length≤128) {p:List Cd} {c:Cd} (hp:∀ d∈p,d∈g) (hc:c∈g) (hcp:c∉p) (ht:c.t.Nodup)
  {s:List (Int×Nat)×List Sg} (h:v7e g B0 p s):v7e g B0 (p++[c]) (v3r g s c):=by
 have hi:=z24 hg
 have hgl:=v6u hc
 obtain ⟨h1,h2,h3,h4⟩:=v5s (gi g c) c.t s.1 s.2 ht (by rw [h.rel.1]; exact hgl) (by
  intro x k hx
  rw [h.last x] at hx
  cases hq:(on x p).getLast? with
  |none=>rw [hq] at hx; cases hx
  |some d=>
   rw [hq] at hx
   cases hx
   have:=v6u (hp d (v4v (eDe hq)))
   omega) (by omega)
 refine ⟨fun x=>?_,?_,?_⟩
 ·show z23 (c.t.foldl (z22 (gi g c)) s).1 x=_
  rw [h1 x,v38,h.last x]
  by_cases hx:x∈c.t
  ·rw [if_pos hx]
   have:on x [c]=[c]:=by rw [v50 hx]; rfl
   rw [this]; simp
  ·rw [if_neg hx]
   have:on x [c]=[]:=by simp [on,hx]
   rw [this]; simp
 ·show (c.t.foldl (z22 (gi g c)) s).2.length=_
  rw [h2,h.rel.1]
 ·intro i e he k
  show ((c.t.foldl (z22 (gi g c)) s).2.getD i Sg.none).has k=_
  have hie:=v5h hg he
  have hem:e∈g:=eAu he
  by_cases hec:e=c
  ·subst hec
   have h4':=h4 k
   rw [hie] at h4'⊢
   refine h4'.trans ?_
   rw [h.rel.2 i e he k]
   cases hk:g[k]? with
   |none=>
    simp only [Bool.false_or]
    rw [List.any_eq_false]
    intro x hx
    simp only [decide_eq_true_eq]
    intro hv
    have hv:z23 s.1 x=some k:=hv
    rw [h.last x] at hv
    cases hq:(on x p).getLast? with
    |none=>rw [hq] at hv; cases hv
    |some d=>
     rw [hq] at hv
     cases hv
     rw [v41 hi (hp d (v4v (eDe hq)))] at hk
     cases hk
   |some d=>
    simp only
    rw [Bool.or_assoc]
    congr 1
    have hl0:ltc p d e=false:=by
     cases hq:ltc p d e with
     |false=>rfl
     |true=>exact absurd (z72.1 hq).1 hcp
    rw [hl0,Bool.false_or,eCu,eCz,z72,v37 (p:=p) (r:=[]) rfl hcp]
    constructor
    ·rintro ⟨x,hx,hv⟩
     have hv:z23 s.1 x=some k:=by simpa using hv
     rw [h.last x] at hv
     refine ⟨by simp,x,hx,?_⟩
     cases hq:(on x p).getLast? with
     |none=>rw [hq] at hv; cases hv
     |some d'=>
      rw [hq] at hv
      cases hv
      rw [v41 hi (hp d' (v4v (eDe hq)))] at hk
      exact hk
    ·rintro ⟨_,x,hx,hv⟩
     refine ⟨x,hx,?_⟩
     have:z23 s.1 x=some k:=by
      rw [h.last x,hv]
      exact congrArg some (v5h hg hk)
     simpa using this
  ·have hne:i≠gi g c:=by
    rintro rfl
    rw [v41 hi hc] at he
    exact hec (Option.some.inj he).symm
   have h3':=congrArg (fun z=>z.has k) (h3 i hne)
   refine h3'.trans ?_
   simp only []
   rw [h.rel.2 i e he k]
   cases hk:g[k]? with
   |none=>rfl
   |some d=>
    simp only
    congr 1
    rw [eCu,z72,z72]
    constructor
    ·rintro ⟨hm,x,hx,hv⟩
     exact ⟨eDv _ hm,x,hx,by rw [v4t hm]; exact hv⟩
    ·rintro ⟨hm,x,hx,hv⟩
     have hm':e∈p:=by
      rcases eBj.1 hm with h|h
      ·exact h
      ·exact absurd (eBe.1 h) hec
     exact ⟨hm',x,hx,by rw [v4t hm'] at hv; exact hv⟩
theorem v6e {g:List Cd} {B0:Cd→Cd→Bool} (hg:(g.map (·.n)).Nodup) (hl:g.length≤128):∀ (q p:List Cd) (s:List (Int×Nat)×List Sg),(∀ d∈p++q,d∈g)→(p++q).Nodup→(∀ c∈q,c.t.Nodup)→v7e g B0 p s→v7e g B0 (p++q) (q.foldl (v3r g) s)
 |[],p,s,_,_,_,h=>by simpa using h
 |c::q,p,s,hm,hn,ht,h=>by
  have hs:=v75 hg hl (fun d hd=>hm d (eDv _ hd)) (hm c (by simp)) (fun hc=>(List.nodup_append.1 hn).2.2 c hc c (eBq ..) rfl) (ht c (eBq ..)) h
  have e:p++c::q=(p++[c])++q:=by simp
  rw [e]
  exact v6e hg hl q (p++[c]) _ (by rw [←e]; exact hm) (by rw [←e]; exact hn) (fun d hd=>ht d (eCm _ hd)) hs
def v3f (g:List Cd) (ss:List Sg) (l:List Cd):List Sg:=(l.foldl (v3r g) ([],ss)).2
def v94 (g:List Cd) (dks:List (List Cd)):List Sg:=dks.foldl (v3f g) (List.replicate g.length Sg.none)
theorem v6c {g:List Cd} (hg:(g.map (·.n)).Nodup) (hl:g.length≤128):∀ (dks:List (List Cd)) (B0:Cd→Cd→Bool) (ss:List Sg),(∀ l∈dks,(∀ d∈l,d∈g)∧l.Nodup∧∀ c∈l,c.t.Nodup)→Rp ss g B0→
  Rp (dks.foldl (v3f g) ss) g fun d c=>B0 d c||dks.any fun l=>ltc l d c
 |[],B0,ss,_,h=>h.congr fun _ _ _ _=>by simp
 |l::dks,B0,ss,hd,h=>by
  obtain ⟨h1,h2,h3⟩:=hd l (eBq ..)
  have hf:=v6e (B0:=B0) hg hl l [] ([],ss) (by simpa using h1) (by simpa using h2) h3 ⟨fun x=>by simp [z23,on],h.congr fun d _ c _=>by
   have:ltc [] d c=false:=by
    cases hq:ltc [] d c with
    |false=>rfl
    |true=>exact absurd (z72.1 hq).1 (by simp)
   rw [this,Bool.or_false]⟩
  have:=v6c hg hl dks _ _ (fun l hl=>hd l (eCm _ hl)) hf.rel
  refine (show Rp ((l::dks).foldl (v3f g) ss) g _ from this).congr fun d _ c _=>?_
  simp only [eDd,List.any_cons,Bool.or_assoc]
theorem v7q {g:List Cd} (hg:(g.map (·.n)).Nodup) (hl:g.length≤128) {dks:List (List Cd)} (hd:∀ l∈dks,(∀ d∈l,d∈g)∧l.Nodup∧∀ c∈l,c.t.Nodup):Rp (v94 g dks) g fun d c=>dks.any fun l=>ltc l d c:=
 (v6c hg hl dks _ _ hd (v7r g)).congr fun _ _ _ _=>by simp
end D12
end Go.Am
end
section
namespace Go.Am
open D12
variable {fl fl':List Int→Bool}
theorem v63 (C lc DK:List (List D)) (IX:List (D×D)) (off len i n:Nat) (nd kd nl kl:Int) (t:List Int) (L:List (Int×Nat)) (ss:List Sg) (hn:n≤128) (hi:i<n) (hs:ss.length=n) (hL:∀ x k,z23 L x=some k→k<128) (ht:t.length≤1000000):
  z5r (v5l std) (z46 L,(C,(IX,(z35 ss,(off,(len,((i:Int),(DK,(nd,(kd,(lc,(nl,(kl,(z1a t,((t.length:Int),((0:Int),()))))))))))))))))=
   some (z46 (t.foldl (z22 i) (L,ss)).1,(C,(IX,(z35 (t.foldl (z22 i) (L,ss)).2,(off,(len,(DK,(nd,(kd,(lc,(nl,(kl,())))))))))))):=by
 have key:=z37 (b:=v5l std) t (fun (s:List (Int×Nat)×List Sg) j=>(z46 s.1,(C,(IX,(z35 s.2,(off,(len,((i:Int),(DK,(nd,(kd,(lc,(nl,(kl,(z1a t,((t.length:Int),((j:Int),()))))))))))))))))) (z22 i)
  (fun s _=>s.2.length=n∧∀ x k,z23 s.1 x=some k→k<128) (fun s=>(z46 s.1,(C,(IX,(z35 s.2,(off,(len,(DK,(nd,(kd,(lc,(nl,(kl,())))))))))))))
  (fun s j x hx hI=>by
   obtain ⟨hs,hL⟩:=hI
   have hj:j<t.length:=(eAd.1 hx).1
   obtain ⟨hw,h0⟩:=stp j (by omega)
   have hlt:(j:Int)<t.length:=by omega
   have hlen:(z35 s.2).length=n:=by rw [v6y,hs]
   have hin:(i:Int)<(n:Int):=by omega
   have hi0:(0:Int)≤(i:Int):=by omega
   have hti:((i:Int)).toNat=i:=by omega
   have hget:s.2[i]?=some (s.2.getD i Sg.none):=by rw [eCi,eAa (by omega)]; rfl
   have hinv:(z22 i s x).2.length=n∧∀ y k,z23 (z22 i s x).1 y=some k→k<128:=by
    refine ⟨?_,fun y k hy=>?_⟩
    ·unfold z22; simp only; cases z23 s.1 x<;>simp [hs]
    ·simp only [z22,z63] at hy
     split at hy
     ·cases hy; omega
     ·exact hL y k hy
   refine ⟨?_,hinv⟩
   cases hv:z23 s.1 x with
   |none=>
    have hh:(z23 s.1 x).isSome=false:=by rw [hv]; rfl
    have ha:=v8d hv i
    simp only [v5l,z2d,z2e,z1a,y8q,w5s,z4b,Int.reduceLT,Int.reduceEq,Int.reduceLE,hx,hlt,h0,hw,v7c,v33,hh,ha,hti,eAg,eBh,z22,hv,Option.isSome_none,Option.isSome_some]
   |some k=>
    have hh:(z23 s.1 x).isSome=true:=by rw [hv]; rfl
    have ha:=v9i hv i
    have hg:=v8c hv
    have h72:=v7m (s.2.getD i Sg.none) k (hL x k hv)
    have hset:=v6x s.2 i ((s.2.getD i Sg.none).wth k)
    have hl2:(z35 (s.2.set i ((s.2.getD i Sg.none).wth k))).length=(z35 s.2).length:=by simp [z35]
    simp only [show ∀ z:Sg,eS z=[.int .u64 (z.a:Int), .int .u64 (z.b:Int)] from fun _=>rfl] at hset
    have hrow:(z35 s.2)[i]?=some (eS (s.2.getD i Sg.none)):=by unfold z35; rw [eAg,hget]; rfl
    rw [←hlen] at hin
    simp only [v5l,z2d,z2e,z1a,y8q,w5s,z4b,Int.reduceLT,Int.reduceEq,Int.reduceLE,hx,hlt,h0,hw,v7c,v33,hh,ha,hg,hti,hrow,z51,v3h,v3g,h72,hin,hi0,eAg,eBh,z22,hv,Option.isSome_none,Option.isSome_some,hset,hl2])
  (fun s _=>by
   have hno:¬ (t.length:Int)<t.length:=by omega
   simp only [v5l,z2d,z2e,hno,if_false,z4b,Int.reduceLT,Int.reduceEq,Int.reduceLE]) (L,ss) ⟨hs,hL⟩
 exact key.1
theorem v64 (C DK:List (List D)) (off len:Nat) (nd kd:Int) (g l:List Cd) (hg:(g.map (·.n)).Nodup) (hgl:g.length≤128) (hm:∀ c∈l,c∈g) (ss:List Sg) (hs:ss.length=g.length) (hll:l.length≤1000000) (hf:Few l):
  z5r (v6j std) ([],(C,(z46 (ixM g),(z35 ss,(off,(len,(DK,(nd,(kd,(z0p fl l,((l.length:Int),((0:Int),()))))))))))))=
   some (C,(z46 (ixM g),(z35 (v3f g ss l),(off,(len,(DK,(nd,(kd,())))))))):=by
 have key:=z37 (b:=v6j std) l (fun (s:List (Int×Nat)×List Sg) j=>(z46 s.1,(C,(z46 (ixM g),(z35 s.2,(off,(len,(DK,(nd,(kd,(z0p fl l,((l.length:Int),((j:Int),()))))))))))))) (v3r g)
  (fun s _=>s.2.length=g.length∧∀ x k,z23 s.1 x=some k→k<128) (fun s=>(C,(z46 (ixM g),(z35 s.2,(off,(len,(DK,(nd,(kd,())))))))))
  (fun s j c hx hI=>by
   obtain ⟨hs,hL⟩:=hI
   have hj:j<l.length:=(eAd.1 hx).1
   have hc:=eAu hx
   obtain ⟨hw,h0⟩:=stp j (by omega)
   have hlt:(j:Int)<l.length:=by omega
   have hgi:=v6u (hm c hc)
   have hv:=v7z (hm c hc)
   have hh:(z23 (ixM g) c.n).isSome=true:=by rw [hv]; rfl
   have hge:=v8c hv
   have h5:=v63 C (z0p fl l) DK (z46 (ixM g)) off len (gi g c) g.length nd kd l.length j c.t s.1 s.2 hgl hgi hs hL (hf c hc)
   have hinv:∀ (t:List Int) (s:List (Int×Nat)×List Sg),s.2.length=g.length→(∀ x k,z23 s.1 x=some k→k<128)→(t.foldl (z22 (gi g c)) s).2.length=g.length∧∀ y k,z23 (t.foldl (z22 (gi g c)) s).1 y=some k→k<128:=by
    intro t
    induction t with
    |nil=>intro s h1 h2; exact ⟨h1,h2⟩
    |cons x t ih=>
     intro s h1 h2
     refine ih _ ?_ ?_
     ·unfold z22; simp only; cases z23 s.1 x<;>simp [h1]
     ·intro y k hy
      simp only [z22,z63] at hy
      split at hy
      ·cases hy; omega
      ·exact h2 y k hy
   refine ⟨?_,hinv c.t s hs hL⟩
   simp only [z0p,z1a] at h5
   have hrow:=v5u (fl:=fl) hx
   have hle:(l.map (eC fl)).length=l.length:=by simp
   have hti:(c.t.map eI).length=c.t.length:=by simp
   simp only [v6j,z2d,z2e,z0p,z1a,z5s,y4y,z0p,z1a,z4b,Int.reduceLT,Int.reduceEq,Int.reduceLE,hlt,h0,hw,hrow,hx,v7c,v33,hh,hge,h5,hti,hle,y0o,v3r])
  (fun s _=>by
   have hno:¬ (l.length:Int)<l.length:=by omega
   simp only [v6j,z2d,z2e,hno,if_false,z4b,Int.reduceLT,Int.reduceEq,Int.reduceLE]) ([],ss) ⟨hs,fun x k h=>by cases h⟩
 exact key.1
def eDk (fl:List Int→Bool) (l:List Cd):List D:=[.list false 4 (z0p fl l)]
def z57 (fl:List Int→Bool) (d:List (List Cd)):List (List D):=d.map (eDk fl)
theorem v4c (l:List Cd):z3k [CK.list 4] (eDk fl l)=true:=rfl
theorem v7h (l:List Cd):dL ((eDk fl l)[0]?.getD D.nilp)=z0p fl l:=rfl
theorem v65 (C:List (List D)) (off len:Nat) (g:List Cd) (hg:(g.map (·.n)).Nodup) (hgl:g.length≤128) (dks:List (List Cd)) (hm:∀ l∈dks,∀ c∈l,c∈g) (ss:List Sg) (hs:ss.length=g.length) (hdl:dks.length≤1000000) (hll:∀ l∈dks,l.length≤1000000) (hf:∀ l∈dks,Few l):
  z5r (v6k std) (C,(z46 (ixM g),(z35 ss,(off,(len,(z57 fl dks,((dks.length:Int),((0:Int),()))))))))=some (C,(z46 (ixM g),(z35 (dks.foldl (v3f g) ss),(off,(len,()))))):=by
 have key:=z37 (b:=v6k std) dks (fun (s:List Sg) j=>(C,(z46 (ixM g),(z35 s,(off,(len,(z57 fl dks,((dks.length:Int),((j:Int),()))))))))) (v3f g)
  (fun s _=>s.length=g.length) (fun s=>(C,(z46 (ixM g),(z35 s,(off,(len,()))))))
  (fun s j l hx hI=>by
   have hj:j<dks.length:=(eAd.1 hx).1
   have hl:=eAu hx
   obtain ⟨hw,h0⟩:=stp j (by omega)
   have hlt:(j:Int)<dks.length:=by omega
   have h4:=v64 (fl:=fl) C (z57 fl dks) off len dks.length j g l hg hgl (hm l hl) s hI (hll l hl) (hf l hl)
   have hinv:(v3f g s l).length=g.length:=by
    have:∀ (q:List Cd) (s:List (Int×Nat)×List Sg),(q.foldl (v3r g) s).2.length=s.2.length:=by
     intro q
     induction q with
     |nil=>intro s; rfl
     |cons c q ih=>
      intro s
      rw [eDt,ih]
      have:∀ (t:List Int) (s:List (Int×Nat)×List Sg),(t.foldl (z22 (gi g c)) s).2.length=s.2.length:=by
       intro t
       induction t with
       |nil=>intro s; rfl
       |cons x t ih=>
        intro s
        rw [eDt,ih]
        unfold z22; simp only; cases z23 s.1 x<;>simp
      exact this c.t s
    exact (this l ([],s)).trans hI
   refine ⟨?_,hinv⟩
   have hrow:(dks.map (eDk fl))[j]?=some (eDk fl l):=by rw [eAg,hx]; rfl
   have hle:(l.map (eC fl)).length=l.length:=by simp
   simp only [z57,z0p] at h4
   simp only [v6k,z2d,z2e,v4c,v7h,z57,z0p,z4b,Int.reduceLT,Int.reduceEq,Int.reduceLE,hlt,h0,hw,hrow,hx,h4,hle])
  (fun s _=>by
   have hno:¬ (dks.length:Int)<dks.length:=by omega
   simp only [v6k,z2d,z2e,hno,if_false,z4b,Int.reduceLT,Int.reduceEq,Int.reduceLE]) ss hs
 exact key.1
theorem v45 (g:List Cd) (c:Cd):(v4o g c).length≤g.length+1:=by unfold v4o; split<;>simp
theorem v66 (DK DK':List (List D)) (nd kd:Int) (g l:List Cd) (hgl:g.length+l.length≤1000) (hf:Few l):
  z5r (v5m std) (z0p fl g,(z46 (ixM g),(0,(g.length,(DK,(DK',(nd,(kd,(z0p fl l,((l.length:Int),((0:Int),())))))))))))=
   some (z0p fl (l.foldl v4o g),(z46 (ixM (l.foldl v4o g)),(0,((l.foldl v4o g).length,(DK,(DK',(nd,(kd,())))))))):=by
 have key:=z37 (b:=v5m std) l (fun (g:List Cd) j=>(z0p fl g,(z46 (ixM g),(0,(g.length,(DK,(DK',(nd,(kd,(z0p fl l,((l.length:Int),((j:Int),())))))))))))) v4o
  (fun h j=>h.length≤g.length+j) (fun g=>(z0p fl g,(z46 (ixM g),(0,(g.length,(DK,(DK',(nd,(kd,())))))))))
  (fun h j c hx hI=>by
   have hj:j<l.length:=(eAd.1 hx).1
   have hc:=eAu hx
   obtain ⟨hw,h0⟩:=stp j (by omega)
   have hlt:(j:Int)<l.length:=by omega
   refine ⟨?_,by have:=v45 h c; omega⟩
   have hany:=v8t h c.n
   have hrow:=v5u (fl:=fl) hx
   have hle:(l.map (eC fl)).length=l.length:=by simp
   cases hq:h.any (fun d=>decide (d.n=c.n)) with
   |true=>
    rw [hq] at hany
    simp only [v5m,z2d,z2e,z0p,z1a,z5s,y4y,z0p,z4b,Int.reduceLT,Int.reduceEq,Int.reduceLE,hlt,h0,hw,hrow,hx,v7c,v33,hany,hle,v4o,hq]
   |false=>
    rw [hq] at hany
    have hno:z23 (ixM h) c.n=none:=by cases hz:z23 (ixM h) c.n with|none=>rfl|some _=>rw [hz] at hany; cases hany
    have ha:=v8d hno h.length
    rw [v8u hno] at ha
    have e1:(0:Int)≤(h.length:Int):=by omega
    have e2:¬ h.length+1≤h.length:=by omega
    have e3:h.length+1≤1000000:=by omega
    have e4:(h.map (eC fl)).length=h.length:=by simp
    have e5:(h.map (eC fl)).take h.length=h.map (eC fl):=by rw [←e4,eDi]
    simp only [v5m,z2d,z2e,z0p,z1a,z5s,y4y,z0p,z4b,Int.reduceLT,Int.reduceEq,Int.reduceLE,hlt,h0,hw,hrow,hx,v7c,v33,hany,hle,v4o,hq,ha,e1,e2,e3,e4,e5,eDr,eAt,Int.toNat_zero,eAk,Int.le_refl,eDb]
    have hF:std.rdF (l.map (eC fl)) j 2 1=fl c.t:=v96 ‹_›
    rw [hF]
    simp [eC,z1a])
  (fun s _=>by
   have hno:¬ (l.length:Int)<l.length:=by omega
   simp only [v5m,z2d,z2e,hno,if_false,z4b,Int.reduceLT,Int.reduceEq,Int.reduceLE]) g (eAk _)
 exact key.1
theorem z64:∀ (l g:List Cd),(l.foldl v4o g).length≤g.length+l.length
 |[],g=>by simp
 |c::l,g=>by
  have:=z64 l (v4o g c)
  have:=v45 g c
  simp only [eDt,eBi]; omega
theorem v67 (dks:List (List Cd)) (hdl:dks.length≤2) (hll:∀ l∈dks,l.length≤60) (hf:∀ l∈dks,Few l):
  z5r (v6l std) ([],([],(0,(0,(z57 fl dks,(z57 fl dks,((dks.length:Int),((0:Int),()))))))))=some (z0p fl (z31 dks),(z46 (ixM (z31 dks)),(0,((z31 dks).length,(z57 fl dks,())))))∧(z31 dks).length≤dks.length*60:=by
 have key:=z37 (b:=v6l std) dks (fun (g:List Cd) j=>(z46 (ixM g),(z0p fl g,(0,(g.length,(z57 fl dks,(z57 fl dks,((dks.length:Int),((j:Int),()))))))))) (fun g l=>l.foldl v4o g)
  (fun h j=>h.length≤j*60) (fun g=>(z0p fl g,(z46 (ixM g),(0,(g.length,(z57 fl dks,()))))))
  (fun h j l hx hI=>by
   have hj:j<dks.length:=(eAd.1 hx).1
   have hl:=eAu hx
   obtain ⟨hw,h0⟩:=stp j (by omega)
   have hlt:(j:Int)<dks.length:=by omega
   have h60:=hll l hl
   have h2:=v66 (fl:=fl) (z57 fl dks) (z57 fl dks) dks.length j h l (by omega) (hf l hl)
   refine ⟨?_,by have:=z64 l h; omega⟩
   have hrow:(dks.map (eDk fl))[j]?=some (eDk fl l):=by rw [eAg,hx]; rfl
   have hle:(l.map (eC fl)).length=l.length:=by simp
   simp only [z57,z0p] at h2
   simp only [v6l,z2d,z2e,v4c,v7h,z57,z0p,z4b,Int.reduceLT,Int.reduceEq,Int.reduceLE,hlt,h0,hw,hrow,hx,h2,hle])
  (fun s _=>by
   have hno:¬ (dks.length:Int)<dks.length:=by omega
   simp only [v6l,z2d,z2e,hno,if_false,z4b,Int.reduceLT,Int.reduceEq,Int.reduceLE]) [] (by simp)
 exact key
structure u1o (g:List Cd) (dks:List (List Cd)):Prop where
 nums:(g.map (·.n)).Nodup
 mem:∀ l∈dks,∀ c∈l,c∈g
 wf:∀ l∈dks,l.length≤60∧l.Nodup∧∀ c∈l,c.t.Nodup∧c.t.length≤1000000
theorem v9s (dks:List (List Cd)) (hdl:dks.length≤2) (hk:u1o (z31 dks) dks):
  G66 std (z57 fl dks,())=some (z0p fl (z31 dks),(z46 (ixM (z31 dks)),(z35 (v94 (z31 dks) dks),(0,((z31 dks).length,()))))):=by
 obtain ⟨h1,hlen⟩:=v67 (fl:=fl) dks hdl (fun l hl=>(hk.wf l hl).1) (fun l hl c hc=>((hk.wf l hl).2.2 c hc).2)
 generalize z31 dks=g at*
 have hgl:g.length≤128:=by omega
 have h3:=v65 (fl:=fl) (z0p fl g) 0 g.length g hk.nums hgl dks hk.mem (List.replicate g.length Sg.none) (by simp) (by omega) (fun l hl=>by have:=(hk.wf l hl).1; omega) (fun l hl c hc=>((hk.wf l hl).2.2 c hc).2)
 have hrep:List.replicate g.length [D.int .u64 0,D.int .u64 0]=z35 (List.replicate g.length Sg.none):=by
  unfold z35; rw [List.map_replicate]; rfl
 unfold G66 v94
 have hd:(z57 fl dks).length=dks.length:=by simp [z57]
 have e0:(0:Int)≤(g.length:Int):=by omega
 have e1:(g.length:Int)≤1000000:=by omega
 have e2:(z35 (List.replicate g.length Sg.none)).length=g.length:=by simp [z35]
 simp only [z2d,z2e,z4b,Int.reduceLT,Int.reduceEq,Int.reduceLE,hd,h1,h3,hrep,e0,e1,e2,Int.le_refl]
end Go.Am
end
section
namespace Go.Am
open D12
variable {fl fl':List Int→Bool}
def v8j (g rem:List Cd) (s:Sg):Prop:=∀ k c,g[k]?=some c→s.has k=!decide (c∈rem)
theorem v5w {g rem:List Cd} {ss:List Sg} {B:Cd→Cd→Bool} (hr:Rp ss g B) (hgl:g.length≤128) (hi:Inj g) (hsub:∀ x∈rem,x∈g) {s:Sg} (hd:v8j g rem s) {j:Nat} {d:Cd} (hj:g[j]?=some d):
  (((ss.getD j Sg.none).and s).a=(ss.getD j Sg.none).a∧((ss.getD j Sg.none).and s).b=(ss.getD j Sg.none).b)↔w7p B rem d=true:=by
 rw [Sg.and_sub,z26]
 constructor
 ·intro h e he
  obtain ⟨k,hk,hke⟩:=eDj.1 (hsub e he)
  have hk':g[k]?=some e:=by rw [eAa hk,hke]
  have hb:=hr.2 j d hj k
  rw [hk'] at hb
  cases hq:B e d with
  |false=>rfl
  |true=>
   have:=h k (by omega) (by rw [hb]; exact hq)
   rw [hd k e hk'] at this
   simp [he] at this
 ·intro h k hk hb
  rw [hr.2 j d hj k] at hb
  cases hk':g[k]? with
  |none=>rw [hk'] at hb; cases hb
  |some e=>
   rw [hk'] at hb
   rw [hd k e hk']
   have hb:B e d=true:=hb
   have:e∉rem:=fun he=>by rw [h e he] at hb; cases hb
   simp [this]
def v7f (B:Cd→Cd→Bool) (g rem:List Cd) (b:Int) (j:Nat):Prop:=
 (b= -1∧∀ i d,i<j→g[i]?=some d→d∈rem→w7p B rem d=true→False)∨
 ∃ (k:Nat) (c:Cd),b=(k:Int)∧k<j∧g[k]?=some c∧c∈rem∧w7p B rem c=true∧∀ i d,i<j→g[i]?=some d→d∈rem→w7p B rem d=true→c.n≤d.n
theorem v6f {B:Cd→Cd→Bool} {g rem:List Cd} {b:Int} (hi:Inj g) (hsub:∀ x∈rem,x∈g) (h:v7f B g rem b g.length) {c0:Cd} (hb:best B rem=some c0):∃ k:Nat,b=(k:Int)∧g[k]?=some c0:=by
 have hr:=hi.sub hsub
 have h0:=(v3i B hr).1 hb
 rcases h with ⟨rfl,h⟩|⟨k,c,rfl,hk,hc,hm,hf,hl⟩
 ·obtain ⟨i,hi',he⟩:=eDj.1 (hsub c0 h0.1)
  exact (h i c0 hi' (by rw [eAa hi',he]) h0.1 ((z26 B).2 h0.2.1)).elim
 ·refine ⟨k,rfl,?_⟩
  have:best B rem=some c:=(v3i B hr).2 ⟨hm,(z26 B).1 hf,fun d hd hfd=>by
   obtain ⟨i,hi',he⟩:=eDj.1 (hsub d hd)
   exact hl i d hi' (by rw [eAa hi',he]) hd ((z26 B).2 hfd)⟩
  rw [hb] at this
  cases this
  exact hc
theorem v3t {B:Cd→Cd→Bool} {g rem:List Cd} {b:Int} {j:Nat} (h:v7f B g rem b j) {d:Cd} (hj:g[j]?=some d) (hno:¬ (d∈rem∧w7p B rem d=true)):v7f B g rem b (j+1):=by
 have hx:∀ i e,i<j+1→g[i]?=some e→e∈rem→w7p B rem e=true→i<j:=by
  intro i e hi he h1 h2
  rcases eBw i j with h|h
  ·exact h
  ·have:i=j:=by omega
   subst this
   rw [hj] at he; cases he
   exact absurd ⟨h1,h2⟩ hno
 rcases h with ⟨rfl,h⟩|⟨k,c,rfl,hk,hc,hm,hf,hl⟩
 ·exact .inl ⟨rfl,fun i e hi he h1 h2=>h i e (hx i e hi he h1 h2) he h1 h2⟩
 ·exact .inr ⟨k,c,rfl,by omega,hc,hm,hf,fun i e hi he h1 h2=>hl i e (hx i e hi he h1 h2) he h1 h2⟩
theorem v62 (E:List (List D)) (IX:List (D×D)) (g rem:List Cd) (ss:List Sg) {B:Cd→Cd→Bool} (hr:Rp ss g B) (hgl:g.length≤128) (hi:Inj g) (hsub:∀ x∈rem,x∈g) {s:Sg} (hd:v8j g rem s) (d0 d1 n8 n9:Int) {c0:Cd} (hb:best B rem=some c0):
  ∃ k:Nat,z5r (v3l std) (z0p fl g,(IX,(z35 ss,(E,(0,(g.length,(d0,(d1,((-1:Int),((s.a:Int),((s.b:Int),(n8,(n9,((g.length:Int),((0:Int),())))))))))))))))=
   some (z0p fl g,(IX,(z35 ss,(E,(0,(g.length,(d0,(d1,((k:Int),((s.a:Int),((s.b:Int),(n8,(n9,())))))))))))))∧g[k]?=some c0:=by
 have key:=y6h (b:=v3l std) g.length (fun (b:Int) j=>(z0p fl g,(IX,(z35 ss,(E,(0,(g.length,(d0,(d1,(b,((s.a:Int),((s.b:Int),(n8,(n9,((g.length:Int),((j:Int),()))))))))))))))))
  (fun b j=>v7f B g rem b j) (fun r=>∃ k:Nat,r=(z0p fl g,(IX,(z35 ss,(E,(0,(g.length,(d0,(d1,((k:Int),((s.a:Int),((s.b:Int),(n8,(n9,())))))))))))))∧g[k]?=some c0)
  (fun b j hj hB=> .inl (by
   obtain ⟨d,hdj⟩:=z1v hj
   obtain ⟨hw,h0⟩:=stp j (by omega)
   have hlt:(j:Int)<g.length:=by omega
   have h74:=v9q s j (by omega)
   rw [hd j d hdj] at h74
   have hsg:ss[j]?=some (ss.getD j Sg.none):=by rw [eCi,eAa (by rw [hr.1]; exact hj)]; rfl
   have hrow:(ss.map eS)[j]?=some (eS (ss.getD j Sg.none)):=by rw [eAg,hsg]; rfl
   have hbl:(ss.map eS).length=g.length:=by rw [eBt,hr.1]
   have h132:=v8g (ss.getD j Sg.none) s
   have hrd:=v5w hr hgl hi hsub hd hdj
   by_cases hm:d∈rem
   ·by_cases hf:w7p B rem d=true
    ·obtain ⟨ea,eb⟩:=hrd.2 hf
     rw [ea,eb] at h132
     have hcrow:=v5u (fl:=fl) hdj
     rcases hB with ⟨rfl,hB⟩|⟨k,c,rfl,hk,hc,hcm,hcf,hcl⟩
     ·refine ⟨(j:Int),?_, .inr ⟨j,d,rfl,by omega,hdj,hm,hf,fun i e hi' he h1 h2=>?_⟩⟩
      ·simp only [v3l,z2d,z2e,z35,z0p,z51,v3h,v3g,z4b,Int.reduceLT,Int.reduceEq,Int.reduceLE,hlt,h0,hw,h74,hm,hrow,hbl,h132]
      ·rcases eBw i j with h|h
       ·exact (hB i e h he h1 h2).elim
       ·have:i=j:=by omega
        subst this
        rw [hdj] at he; cases he; exact Int.le_refl _
     ·have hckr:=v5u (fl:=fl) hc
      have hk0:¬ (k:Int)<0:=by omega
      have hk1:(0:Int)≤(k:Int):=by omega
      have hk2:(k:Int)<(g.length:Int):=by omega
      by_cases hlt2:d.n<c.n
      ·refine ⟨(j:Int),?_, .inr ⟨j,d,rfl,by omega,hdj,hm,hf,fun i e hi' he h1 h2=>?_⟩⟩
       ·simp only [v3l,z2d,z2e,z0p,z1a,z5s,y4y,z35,z0p,z51,v3h,v3g,z4b,Int.reduceLT,Int.reduceEq,Int.reduceLE,hlt,h0,hw,h74,hm,hrow,hbl,h132,hcrow,hckr,hk0,hk1,hk2,hlt2]
       ·rcases eBw i j with h|h
        ·have:=hcl i e h he h1 h2; omega
        ·have:i=j:=by omega
         subst this
         rw [hdj] at he; cases he; exact Int.le_refl _
      ·refine ⟨(k:Int),?_, .inr ⟨k,c,rfl,by omega,hc,hcm,hcf,fun i e hi' he h1 h2=>?_⟩⟩
       ·simp only [v3l,z2d,z2e,z0p,z1a,z5s,y4y,z35,z0p,z51,v3h,v3g,z4b,Int.reduceLT,Int.reduceEq,Int.reduceLE,hlt,h0,hw,h74,hm,hrow,hbl,h132,hcrow,hckr,hk0,hk1,hk2,hlt2]
       ·rcases eBw i j with h|h
        ·exact hcl i e h he h1 h2
        ·have:i=j:=by omega
         subst this
         rw [hdj] at he; cases he; omega
    ·refine ⟨b,?_,v3t hB hdj fun h=>hf h.2⟩
     have hne:¬ ((((ss.getD j Sg.none).and s).a:Int)=((ss.getD j Sg.none).a:Int)∧(((ss.getD j Sg.none).and s).b:Int)=((ss.getD j Sg.none).b:Int)):=fun h=>hf (hrd.1 ⟨by omega,by omega⟩)
     by_cases h1:(((ss.getD j Sg.none).and s).a:Int)=((ss.getD j Sg.none).a:Int)
     ·have h2:¬ (((ss.getD j Sg.none).and s).b:Int)=((ss.getD j Sg.none).b:Int):=fun h=>hne ⟨h1,h⟩
      simp only [v3l,z2d,z2e,z35,z0p,z51,v3h,v3g,z4b,Int.reduceLT,Int.reduceEq,Int.reduceLE,hlt,h0,hw,h74,hm,hrow,hbl,h132,h1,h2]
     ·simp only [v3l,z2d,z2e,z35,z0p,z51,v3h,v3g,z4b,Int.reduceLT,Int.reduceEq,Int.reduceLE,hlt,h0,hw,h74,hm,hrow,hbl,h132,h1]
   ·refine ⟨b,?_,v3t hB hdj fun h=>hm h.1⟩
    simp only [v3l,z2d,z2e,z35,z0p,z51,v3h,v3g,z4b,Int.reduceLT,Int.reduceEq,Int.reduceLE,hlt,h0,hw,h74,hm,hrow,hbl]))
  (fun b hB=>by
   obtain ⟨k,rfl,hk⟩:=v6f hi hsub hB hb
   have hno:¬ (g.length:Int)<g.length:=by omega
   exact ⟨_,by simp only [v3l,z2d,z2e,hno,if_false,z4b,Int.reduceLT,Int.reduceEq,Int.reduceLE],k,rfl,hk⟩) (-1) 0 (eAv _) (.inl ⟨rfl,fun i d hi'=>by omega⟩)
 obtain ⟨r,h1,k,rfl,hk⟩:=key
 exact ⟨k,h1,hk⟩
def u1q (B:Cd→Cd→Bool) (g:List Cd):Prop:=∀ rem:List Cd,(∀ x∈rem,x∈g)→rem≠[]→∃ c,best B rem=some c
theorem v60 {B:Cd→Cd→Bool} {g m:List Cd} (hl:Lin B m) (hm:∀ x∈g,x∈m):u1q B g:=by
 intro rem hs hne
 cases hq:best B rem with
 |some c=>exact ⟨c,rfl⟩
 |none=>
  exfalso
  have hq:=(v4e B).1 hq
  have h2:=v4d (hl.filter fun x=>decide (x∈rem)) (l:=m.filter fun x=>decide (x∈rem)) (by
   intro e
   obtain ⟨x,hx⟩:=List.exists_mem_of_ne_nil rem hne
   have:x∈m.filter fun x=>decide (x∈rem):=eDa.2 ⟨hm x (hs x hx),by simpa using hx⟩
   rw [e] at this; cases this)
  obtain ⟨c,hc⟩:=h2
  unfold best at hc
  obtain ⟨h3,_⟩:=z36 hc
  obtain ⟨h4,h5⟩:=eDa.1 h3
  have h6:c∈rem:=by simpa using (eDa.1 h4).2
  obtain ⟨d,hd,hdc⟩:=hq c h6
  have:=(z26 B).1 h5 d (eDa.2 ⟨hm d (hs d hd),by simpa using hd⟩)
  rw [hdc] at this; cases this
structure u1h (B:Cd→Cd→Bool) (g:List Cd) (t:List Cd×List Cd×Sg) (i:Nat):Prop where
 len:t.2.1.length+i=g.length
 olen:t.1.length=i
 sub:∀ x∈t.2.1,x∈g
 nd:t.2.1.Nodup
 done:v8j g t.2.1 t.2.2
 res:t.1++lst B t.2.1.length t.2.1=lst B g.length g
theorem v56 {B:Cd→Cd→Bool} {g:List Cd} (hn:(g.map (·.n)).Nodup) (hgl:g.length≤128) {t:List Cd×List Cd×Sg} {i:Nat} (h:u1h B g t i) {c:Cd} (hb:best B t.2.1=some c) {k:Nat} (hk:g[k]?=some c):
  u1h B g (t.1++[c],rm c t.2.1,t.2.2.wth k) (i+1):=by
 have hi:=z24 hn
 have hc:=((v3i B (hi.sub h.sub)).1 hb).1
 have hrl:=v36 h.nd hc
 have hkl:k<g.length:=(eAd.1 hk).1
 refine ⟨?_,by simp [h.olen],fun x hx=>h.sub x (z33.1 hx).1,h.nd.filter _,fun j d hj=>?_,?_⟩
 ·have:=h.len; simp only; omega
 ·simp only
  rw [Sg.has_wth _ (by omega),h.done j d hj]
  by_cases e:j=k
  ·subst e
   rw [hk] at hj; cases hj
   simp [z33]
  ·have hdc:d≠c:=by
    rintro rfl
    exact e ((v5h hn hj).symm.trans (v5h hn hk))
   simp [z33,e,hdc]
 ·simp only
  rw [←h.res, ←hrl]
  conv=>rhs; rw [lst]
  rw [hb]
  simp only [eCg,List.singleton_append,Nat.add_sub_cancel]
theorem v9r (IX:List (D×D)) (g:List Cd) (ss:List Sg) {B:Cd→Cd→Bool} (hr:Rp ss g B) (hgl:g.length≤128) (hn:(g.map (·.n)).Nodup) (hcan:u1q B g) (hw:∀ c∈g,1≤c.t.length∧c.t.length≤1000000):
  G67 std (z0p fl g,(IX,(z35 ss,(0,(g.length,())))))=some (z0p fl g,(IX,(z35 ss,(z0p (fun _=>false) (lst B g.length g),(0,(g.length,())))))):=by
 have hi:=z24 hn
 have key:=y6h (b:=v6i std) g.length (fun (t:List Cd×List Cd×Sg) i=>(z0p fl g,(IX,(z35 ss,(z0p (fun _=>false) t.1,(0,(g.length,((t.2.2.a:Int),((t.2.2.b:Int),((g.length:Int),((i:Int),())))))))))))
  (u1h B g) (fun r=>r=(z0p fl g,(IX,(z35 ss,(z0p (fun _=>false) (lst B g.length g),(0,(g.length,())))))))
  (fun t i hlt hI=> .inl (by
   obtain ⟨hw2,h0⟩:=stp i (by omega)
   have hlt':(i:Int)<g.length:=by omega
   have hne:t.2.1≠[]:=by intro e; have:=hI.len; rw [e] at this; simp at this; omega
   obtain ⟨c,hb⟩:=hcan t.2.1 hI.sub hne
   obtain ⟨k,h2,hk⟩:=v62 (fl:=fl) (z0p (fun _=>false) t.1) IX g t.2.1 ss hr hgl hi hI.sub hI.done (t.2.2.a:Int) (t.2.2.b:Int) (g.length:Int) (i:Int) hb
   have hkl:k<g.length:=(eAd.1 hk).1
   have h72:=v7m t.2.2 k (by omega)
   have hc:=hw c (eAu hk)
   have h75:=v9p c hc.1 hc.2
   refine ⟨(t.1++[c],rm c t.2.1,t.2.2.wth k),?_,v56 hn hgl hI hb hk⟩
   have hrow:=v5u (fl:=fl) hk
   have hk1:(0:Int)≤(k:Int):=by omega
   have hk2:(k:Int)<(g.length:Int):=by omega
   have ho:=hI.olen
   have e1:i+1≤1000000:=by omega
   have e4:(t.1.map (eC fun _=>false)).length=i:=by simp [ho]
   have e5:(t.1.map (eC fun _=>false)).take i=t.1.map (eC fun _=>false):=by rw [←e4,eDi]
   have hgle:(ss.map eS).length=g.length:=by rw [eBt,hr.1]
   simp only [z0p,z35,z1a] at h2 h75
   simp only [v6i,z2d,z2e,z0p,z1a,z5s,y4y,z35,z0p,z1a,z4b,Int.reduceLT,Int.reduceEq,Int.reduceLE,hlt',h0,hw2,h2,hgle,h72,hrow,h75,hk1,hk2,e1,e4,e5,eAp,eAk,eDb]
   simp [eC,z1a,e1,e4,e5]))
  (fun t hI=>⟨(z0p fl g,(IX,(z35 ss,(z0p (fun _=>false) t.1,(0,(g.length,())))))),by
   have hno:¬ (g.length:Int)<g.length:=by omega
   simp only [v6i,z2d,z2e,hno,if_false,z4b,Int.reduceLT,Int.reduceEq,Int.reduceLE],by
   have h0:t.2.1=[]:=eBn.1 (by have:=hI.len; omega)
   have:=hI.res
   rw [h0] at this
   simp only [eDc,lst,eCn] at this
   simp only [this]⟩) ([],g,Sg.none) 0 (eAv _) ⟨by simp,rfl,fun x h=>h,z32 hn,fun k c hk=>by rw [Sg.has_none]; simp [eAu hk],rfl⟩
 obtain ⟨r,h1,rfl⟩:=key
 have h1:z5r (v6i std) (z0p fl g,(IX,(z35 ss,([],(0,(g.length,((0:Int),((0:Int),((g.length:Int),((0:Int),()))))))))))=_:=h1
 unfold G67
 simp only [z2d,z2e,h1]
end Go.Am
end
section
namespace Go.Am
open D12
variable {fl fl':List Int→Bool}
theorem z53 {l:List Cd} (h:(l.map (·.n)).Nodup):z31 [l]=l:=by
 have:∀ (q p:List Cd),((p++q).map (·.n)).Nodup→q.foldl v4o p=p++q:=by
  intro q
  induction q with
  |nil=>intro p _; simp
  |cons c q ih=>
   intro p hp
   have hno:(p.any fun d=>decide (d.n=c.n))=false:=by
    rw [List.any_eq_false]
    intro d hd
    simp only [decide_eq_true_eq]
    rw [eDh,List.nodup_append] at hp
    exact fun e=>hp.2.2 d.n (List.mem_map_of_mem hd) c.n (by simp) e
   have e:p++c::q=(p++[c])++q:=by simp
   rw [eDt]
   have:v4o p c=p++[c]:=by unfold v4o; rw [hno]; rfl
   rw [this,e]
   exact ih _ (by rw [←e]; exact hp)
 exact this l [] (by simpa using h)
theorem z25 {l:List Cd} (h:z4y l=0):l.length≤60∧(l.map (·.n)).Nodup∧l.Nodup∧(∀ c∈l,z3d c=0)∧(∀ c∈l,1≤c.t.length∧c.t.length≤3∧c.t.Nodup):=by
 obtain ⟨h1,h2,h3⟩:=z75.1 h
 refine ⟨h1,h3,z32 h3,h2,fun c hc=>?_⟩
 obtain ⟨a,b,c1,d,e,f⟩:=v4m.1 (h2 c hc)
 refine ⟨?_,?_,e⟩
 ·omega
 ·have:z3a c.k≤3:=by unfold z3a; split<;>(try split)<;>(try split)<;>omega
  omega
theorem z80 {l:List Cd} (h:z4y l=0):u1o (z31 [l]) [l]:=by
 obtain ⟨h1,h2,h3,h4,h5⟩:=z25 h
 refine ⟨by rw [z53 h2]; exact h2,fun m hm c hc=>?_,fun m hm=>?_⟩
 ·rw [eBe.1 hm] at hc; rw [z53 h2]; exact hc
 ·rw [eBe.1 hm]; exact ⟨h1,h3,fun c hc=>⟨(h5 c hc).2.2,by have:=(h5 c hc).2.1; omega⟩⟩
theorem v58 {l:List Cd} (h:z4y l=0):∃ ss,G66 std ([[.list false 4 (z0p fl l)]],())=some (z0p fl l,(z46 (ixM l),(z35 ss,(0,(l.length,())))))∧Rp ss l (ltc l):=by
 obtain ⟨h1,h2,h3,h4,h5⟩:=z25 h
 have g:=v9s (fl:=fl) [l] (by simp) (z80 h)
 have hs:=v7q (g:=z31 [l]) (dks:=[l]) (z80 h).nums (by rw [z53 h2]; omega) (fun m hm=>⟨(z80 h).mem m hm,((z80 h).wf m hm).2.1,fun c hc=>(((z80 h).wf m hm).2.2 c hc).1⟩)
 rw [z53 h2] at g hs
 exact ⟨_,g,hs.congr fun d _ c _=>by simp⟩
theorem v7v {l:List Cd} (hn:l.Nodup):Lin (ltc l) l:=by
 have h:=v4k hn
 have hf:∀ x y,ord l x y=false→ltc l x y=false:=fun x y h=>by
  cases hq:ltc l x y with
  |false=>rfl
  |true=>rw [(v53 hq).1] at h; cases h
 exact ⟨h.1.imp fun h=>hf _ _ h,fun x hx=>hf _ _ (h.2 x hx)⟩
theorem v57 {l:List Cd} (hm:(l.map (·.n)).Nodup):lst (ltc l) l.length l=z21 l:=by
 have hn:=z32 hm
 exact v4b l (fun x _ y _ h=>(v53 h).1) (fun x hx y hy h=>by
  rcases v7t hn hx hy h with h|⟨z,hz,h1,h2⟩
  ·exact .inl h
  ·exact .inr ⟨z,hz,h1,h2⟩) (z24 hm) l.length l (fun x h=>h) (fun x _ y hy hno _=>absurd hy hno)
theorem v3b {l:List Cd} (h:z4y l=0):∃ IX ss,G66 std ([[.list false 4 (z0p fl l)]],())=some (z0p fl l,(IX,(z35 ss,(0,(l.length,())))))∧
  G67 std (z0p fl l,(IX,(z35 ss,(0,(l.length,())))))=some (z0p fl l,(IX,(z35 ss,(z0p (fun _=>false) (z21 l),(0,(l.length,())))))):=by
 obtain ⟨h1,h2,h3,h4,h5⟩:=z25 h
 obtain ⟨ss,g,hr⟩:=v58 (fl:=fl) h
 have h67:=v9r (fl:=fl) (z46 (ixM l)) l ss hr (by omega) h2 (v60 (v7v h3) fun x h=>h) (fun c hc=>⟨(h5 c hc).1,by have:=(h5 c hc).2.1; omega⟩)
 rw [v57 h2] at h67
 exact ⟨_,ss,g,h67⟩
theorem v7n (l:List Cd) (hf:Few l):G29 std (z0p fl l,())=some ((if z4y l=0 then z0p (fun _=>false) (z21 l) else []),(z4y l,())):=by
 have h19:=w3q (fl:=fl) l hf
 unfold G29
 by_cases h:z4y l=0
 ·obtain ⟨IX,ss,g66,g67⟩:=v3b (fl:=fl) h
  simp only [z2d,z2e,z4b,Int.reduceLT,Int.reduceEq,Int.reduceLE,h19,h,g66,g67]
 ·simp only [z2d,z2e,z4b,Int.reduceLT,Int.reduceEq,Int.reduceLE,h19,h]
end Go.Am
end
section
namespace Go.Am
open D12
variable {fl fl':List Int→Bool}
def no:Sf:=fun _=>none
end Go.Am
end
section
namespace Go.Am
open D12
variable {fl fl':List Int→Bool}
def nums (b:List Th):List Int:=b.map (·.num)
end Go.Am
end
section
namespace Go.Am
open D12
variable {fl fl':List Int→Bool}
theorem v6v {l:List Cd}:v8k l=true↔z4y l=0:=by
 unfold v8k
 simp only [eAb,eBy,decide_eq_true_eq]
 constructor
 ·exact fun h=>h.2
 ·intro h
  refine ⟨?_,h⟩
  obtain ⟨h1,_,_,_,h5⟩:=z25 h
  unfold x8g
  simp only [Bool.or_eq_false_iff,decide_eq_false_iff_not,List.any_eq_false,decide_eq_true_eq]
  exact ⟨by omega,fun c hc=>by have:=(h5 c hc).2.1; omega⟩
theorem v3d {l:List Cd} (h:z4y l=0):Few l:=fun c hc=>by have:=((z25 h).2.2.2.2 c hc).2.1; omega
end Go.Am
end
section
namespace Go.Am
open D12
variable {fl fl':List Int→Bool}
theorem v8h (a b:List Int) (ha:a.length≤1000000):v8l std (z1a a,(z1a b,()))=some (decide (a=b),()):=by
 by_cases hl:a.length=b.length
 ·have key:=z9b (b:=v3u std) a.length (fun i=>(z1a a,(z1a b,((a.length:Int),((i:Int),()))))) (fun i=>!decide (a.getD i default=b.getD i default)) (.inl (false,())) (.inr ()) (fun i hi=>by
   obtain ⟨m,hm⟩:=z1v hi
   obtain ⟨m',hm'⟩:=z1v (l:=b) (i:=i) (by omega)
   obtain ⟨hw,h0⟩:=stp i (by omega)
   have hlt:(i:Int)<a.length:=by omega
   have r1:=v95 hm
   have r2:(b.map eI)[i]?=some (eI m'):=by rw [eAg,hm']; rfl
   rw [z2h hm,z2h hm']
   by_cases e:m=m'
   ·subst e
    simp only [v3u,z2d,z2e,z1a,y8q,w5s,z4b,Int.reduceLT,Int.reduceEq,Int.reduceLE,r1,r2,hlt,h0,hw,eBt, ←hl,eAi,if_false]
   ·simp only [v3u,z2d,z2e,z1a,y8q,w5s,z4b,Int.reduceLT,Int.reduceEq,Int.reduceLE,r1,r2,hlt,h0,hw,e,eBt, ←hl]) (by
   have hno:¬ (a.length:Int)<a.length:=by omega
   simp only [v3u,z2d,z2e,hno,if_false])
  have key:z5r (v3u std) (z1a a,(z1a b,((a.length:Int),((0:Int),()))))=_:=key
  rw [v4x default hl] at key
  unfold v8l
  have e1:(z1a a).length=a.length:=z00 a
  have e2:(z1a b).length=b.length:=z00 b
  have e3:(a.length:Int)=(b.length:Int):=by omega
  rw [e3] at key
  by_cases e:a=b
  ·simp only [e,decide_true,Bool.not_true,eAi,if_false] at key
   subst e
   simp only [z2d,z2e,z4b,Int.reduceLT,Int.reduceEq,Int.reduceLE,e1,e2,e3,key]
  ·simp only [e,decide_false,eCq,if_true] at key
   simp only [z2d,z2e,z4b,Int.reduceLT,Int.reduceEq,Int.reduceLE,e1,e2,e3,key,e]
 ·unfold v8l
  have e1:(z1a a).length=a.length:=z00 a
  have e2:(z1a b).length=b.length:=z00 b
  have e3:¬ (a.length:Int)=(b.length:Int):=by omega
  have e4:a≠b:=fun h=>hl (by rw [h])
  simp only [z2d,z2e,z4b,Int.reduceLT,Int.reduceEq,Int.reduceLE,e1,e2,e3,e4,ne_eq]
theorem v7l (c d:Cd) (hc:c.t.length≤1000000):G80 std (c.n,(c.k,(z1a c.t,(c.a,(d.n,(d.k,(z1a d.t,(d.a,()))))))))=some (decide (c=d),()):=by
 have h118:=v8h c.t d.t hc
 unfold G80
 by_cases e:c=d
 ·subst e
  rw [decide_eq_true rfl] at h118
  simp only [z2d,z2e,z4b,Int.reduceLT,Int.reduceEq,Int.reduceLE,h118]
 ·have hx:¬ (c.n=d.n∧c.k=d.k∧c.t=d.t∧c.a=d.a):=by
   rintro ⟨h1,h2,h3,h4⟩; exact e (by cases c; cases d; simp_all)
  by_cases e1:c.n=d.n
  ·by_cases e2:c.k=d.k
   ·by_cases e3:c.a=d.a
    ·have e4:¬ c.t=d.t:=fun h=>hx ⟨e1,e2,h,e3⟩
     rw [decide_eq_false e4] at h118
     simp only [z2d,z2e,z4b,Int.reduceLT,Int.reduceEq,Int.reduceLE,h118,e,e1,e2,e3]
    ·simp only [z2d,z2e,z4b,Int.reduceLT,Int.reduceEq,Int.reduceLE,e,e1,e2,e3]
   ·simp only [z2d,z2e,z4b,Int.reduceLT,Int.reduceEq,Int.reduceLE,e,e1,e2]
  ·simp only [z2d,z2e,z4b,Int.reduceLT,Int.reduceEq,Int.reduceLE,e,e1]
theorem v9k (a b:List Cd) (ha:a.length≤1000000) (hr:Few a):G81 std (z0p fl a,(z0p fl' b,()))=some (decide (a=b),()):=by
 by_cases hl:a.length=b.length
 ·have key:=z9b (b:=v5k std) a.length (fun i=>(z0p fl' b,(z0p fl a,((a.length:Int),((i:Int),()))))) (fun i=>!decide (a.getD i default=b.getD i default)) (.inl (false,())) (.inr ()) (fun i hi=>by
   obtain ⟨m,hm⟩:=z1v hi
   obtain ⟨m',hm'⟩:=z1v (l:=b) (i:=i) (by omega)
   obtain ⟨hw,h0⟩:=stp i (by omega)
   have hlt:(i:Int)<a.length:=by omega
   have r1:=v5u (fl:=fl) hm
   have r2:(b.map (eC fl'))[i]?=some (eC fl' m'):=by rw [eAg,hm']; rfl
   have h80:=v7l m m' (hr m (eAu hm))
   simp only [z1a] at h80
   rw [z2h hm,z2h hm']
   by_cases e:m=m'
   ·subst e
    rw [decide_eq_true rfl] at h80
    simp only [v5k,z2d,z2e,z0p,z1a,z5s,y4y,z0p,z1a,z4b,Int.reduceLT,Int.reduceEq,Int.reduceLE,r1,r2,hlt,h0,hw,h80,eBt,eAi,if_false]
   ·rw [decide_eq_false e] at h80
    simp only [v5k,z2d,z2e,z0p,z1a,z5s,y4y,z0p,z1a,z4b,Int.reduceLT,Int.reduceEq,Int.reduceLE,r1,r2,hlt,h0,hw,h80,e,eBt]) (by
   have hno:¬ (a.length:Int)<a.length:=by omega
   simp only [v5k,z2d,z2e,hno,if_false])
  have key:z5r (v5k std) (z0p fl' b,(z0p fl a,((a.length:Int),((0:Int),()))))=_:=key
  rw [v4x default hl] at key
  unfold G81
  have e1:(z0p fl a).length=a.length:=z2i a
  have e2:(z0p fl' b).length=b.length:=z2i b
  have e3:(a.length:Int)=(b.length:Int):=by omega
  rw [e3] at key
  by_cases e:a=b
  ·simp only [e,decide_true,Bool.not_true,eAi,if_false] at key
   subst e
   simp only [z2d,z2e,z4b,Int.reduceLT,Int.reduceEq,Int.reduceLE,e1,e2,e3,key]
  ·simp only [e,decide_false,eCq,if_true] at key
   simp only [z2d,z2e,z4b,Int.reduceLT,Int.reduceEq,Int.reduceLE,e1,e2,e3,key,e]
 ·unfold G81
  have e1:(z0p fl a).length=a.length:=z2i a
  have e2:(z0p fl' b).length=b.length:=z2i b
  have e3:¬ (a.length:Int)=(b.length:Int):=by omega
  have e4:a≠b:=fun h=>hl (by rw [h])
  simp only [z2d,z2e,z4b,Int.reduceLT,Int.reduceEq,Int.reduceLE,e1,e2,e3,e4,ne_eq]
def EM (fl:List Int→Bool):v5r Int Cd:=⟨fun k=> .int .i64 k,fun c=> .agg (eC fl c),[.i],false,true,[.int .i64, .int .i64, .list 1, .int .i64]⟩
theorem v4f:(EM fl).Ok where
 agg:=fun _=>rfl
 kinds:=fun _=>rfl
 eq:=fun a b=>by
  show (bif IntKind.i64==IntKind.i64 then (some (z3o .eql a b&&true)) else none)=_
  rw [eCc]; rfl
 vagg:=fun _=>rfl
 vok:=fun _=>rfl
def v39 (l:List Cd):List (Int×Cd):=l.map fun c=>(c.n,c)
def v3e (fl:List Int→Bool) (m:List (Int×Cd)):List (D×D):=(EM fl).enc m
def fdC (l:List Cd) (x:Int):Option Cd:=l.find? fun c=>decide (c.n=x)
theorem v48 (x:Int):∀ l:List Cd,z23 (v39 l) x=fdC l x
 |[]=>rfl
 |c::l=>by
  have ih:=v48 x l
  unfold v39 fdC at ih⊢
  simp only [List.map_cons,z23,List.find?_cons]
  by_cases h:x=c.n
  ·simp [h]
  ·have:decide (c.n=x)=false:=by simpa using fun e=>h e.symm
   simp [h,this,ih]
theorem v3z {l:List Cd} (hn:(l.map (·.n)).Nodup) {c:Cd} (h:c∈l):fdC l c.n=some c:=by
 unfold fdC
 cases hq:l.find? fun d=>decide (d.n=c.n) with
 |none=>
  rw [List.find?_eq_none] at hq
  have:=hq c h
  simp at this
 |some d=>
  have h1:=List.mem_of_find?_eq_some hq
  have h2:=List.find?_some hq
  simp only [decide_eq_true_eq] at h2
  rw [z24 hn d h1 c h h2]
theorem v4l {l:List Cd} {x:Int} {c:Cd} (h:fdC l x=some c):c∈l∧c.n=x:=by
 have h1:=List.mem_of_find?_eq_some h
 have h2:=List.find?_some h
 simp only [decide_eq_true_eq] at h2
 exact ⟨h1,h2⟩
section
variable (m:List (Int×Cd)) (x:Int)
theorem v91:std.mOk (v3e fl m) [SK.i] false (.int .i64 x) true [.int .i64, .int .i64, .list 1, .int .i64]=true:=v52 v4f m x
theorem v7d:std.mhas (v3e fl m) [SK.i] false (.int .i64 x)=(z23 m x).isSome:=v4y v4f m x
variable {m x}
theorem M_0 {c:Cd} (h:z23 m x=some c):std.mI (v3e fl m) [SK.i] false (.int .i64 x) 0=c.n:=v40 v4f m x 0 h
theorem M_1 {c:Cd} (h:z23 m x=some c):std.mI (v3e fl m) [SK.i] false (.int .i64 x) 1=c.k:=v40 v4f m x 1 h
theorem M_2 {c:Cd} (h:z23 m x=some c):std.mL (v3e fl m) [SK.i] false (.int .i64 x) 2=z1a c.t:=by
 show dL (x2i _ _ _ _ _)=_
 rw [show x2i (v3e fl m) [SK.i] false (.int .i64 x) 2=_ from v4a v4f m x 2 h]; rfl
theorem M_3 {c:Cd} (h:z23 m x=some c):std.mI (v3e fl m) [SK.i] false (.int .i64 x) 3=c.a:=v40 v4f m x 3 h
theorem u1g (h:z23 m x=none) (c:Cd):std.madd (v3e fl m) (.int .i64 x) (.agg [.int .i64 c.n, .int .i64 c.k, .list (fl c.t) 1 (z1a c.t), .int .i64 c.a])=v3e fl (v32 m x c):=v4z v4f m x h c
theorem u1f {c:Cd} (h:z23 m x=some c):std.mdel (v3e fl m) (std.mpos (v3e fl m) [SK.i] false (.int .i64 x))=v3e fl (v6m m x):=v6s v4f m x h
end
theorem v4w {l:List Cd} {i:Nat} {c:Cd} (hn:(l.map (·.n)).Nodup) (h:l[i]?=some c):z23 (v39 (l.take i)) c.n=none∧v32 (v39 (l.take i)) c.n c=v39 (l.take (i+1)):=by
 have h1:z23 (v39 (l.take i)) c.n=none:=by
  rw [z85]
  intro hm
  unfold v39 at hm
  rw [List.map_map] at hm
  obtain ⟨d,hd,he⟩:=eBb.1 hm
  have he:d.n=c.n:=he
  have hdl:=List.mem_of_mem_take hd
  have:=z24 hn d hdl c (eAu h) he
  subst this
  obtain ⟨j,hj,hje⟩:=eDj.1 hd
  rw [eBv] at hj
  rw [List.getElem_take] at hje
  have:=v5h hn (i:=j) (by rw [eAa (by omega),hje])
  have:=v5h hn h
  omega
 refine ⟨h1,?_⟩
 unfold v32
 rw [h1,List.take_add_one,h]
 simp [v39]
theorem v9l (l:List Cd) (hl:l.length≤60) (hn:(l.map (·.n)).Nodup):G79 std (z0p fl l,())=some (v3e fl (v39 l),()):=by
 have key:=y6h (b:=v6g std) l.length (fun (_:Unit) i=>(v3e fl (v39 (l.take i)),(z0p fl l,((l.length:Int),((i:Int),()))))) (fun _ _=>True) (fun r=>r=(v3e fl (v39 l),()))
  (fun _ i hi _=> .inl ⟨(),by
   obtain ⟨c,hc⟩:=z1v hi
   obtain ⟨hw,h0⟩:=stp i (by omega)
   have hlt:(i:Int)<l.length:=by omega
   obtain ⟨h1,h2⟩:=v4w hn hc
   have hrow:=v5u (fl:=fl) hc
   have hh:(z23 (v39 (l.take i)) c.n).isSome=false:=by rw [h1]; rfl
   have ha:=u1g (fl:=fl) h1 c
   rw [h2] at ha
   have hF:std.rdF (l.map (eC fl)) i 2 1=fl c.t:=v96 ‹_›
   simp only [z1a] at ha
   simp only [v6g,z2d,z2e,z0p,z1a,z5s,y4y,z0p,z1a,z4b,Int.reduceLT,Int.reduceEq,Int.reduceLE,hrow,hlt,h0,hw,v91,v7d,hh,hF,ha],trivial⟩)
  (fun _ _=>⟨(v3e fl (v39 l),()),by
   have hno:¬ (l.length:Int)<l.length:=by omega
   rw [eDi]
   simp only [v6g,z2d,z2e,hno,if_false],rfl⟩) () 0 (eAv _) trivial
 obtain ⟨r,h1,rfl⟩:=key
 have h1:z5r (v6g std) ([],(z0p fl l,((l.length:Int),((0:Int),()))))=_:=h1
 unfold G79
 have hle:(z0p fl l).length=l.length:=z2i l
 simp only [z2d,z2e,hle,h1]
theorem v3m {a b:List Cd}:v4i a b=0↔z4y a=0∧z4y b=0:=by
 unfold v4i; split
 ·rename_i h; exact ⟨fun e=>absurd e h,fun e=>absurd e.1 h⟩
 ·rename_i h; simp only [ne_eq,Decidable.not_not] at h; simp [h]
def v9j (a b:List Cd) (i:Nat) (M:List (Int×Cd)):Prop:=(M.map (·.1)).Nodup∧∀ x,z23 M x=if x∈(a.take i).map (·.n) then none else fdC b x
theorem v8s {M:List (Int×Cd)} (h:M≠[]):∃ x c,z23 M x=some c:=by
 match M,h with
 |(x,c)::M,_=>exact ⟨x,c,by simp [z23]⟩
theorem v68 (A B:List (List D)) (a b:List Cd) (ha:a.length≤60) (han:(a.map (·.n)).Nodup) (hbn:(b.map (·.n)).Nodup) (hbt:∀ c∈b,c.t.length≤1000000):
  ∃ r,z5r (v4n std) (v3e fl' (v39 b),(A,(B,(z0p fl a,((a.length:Int),((0:Int),()))))))=some r∧
   ((r= .inl (15,())∧¬ ∀ c∈a,c∈b)∨∃ M,r= .inr (v3e fl' M,(A,(B,())))∧(∀ c∈a,c∈b)∧v9j a b a.length M):=by
 refine y6h (b:=v4n std) a.length (fun (M:List (Int×Cd)) i=>(v3e fl' M,(A,(B,(z0p fl a,((a.length:Int),((i:Int),()))))))) (fun M i=>v9j a b i M∧∀ c∈a.take i,c∈b) _
  (fun M i hi hI=>?_) (fun M hI=>?_) (v39 b) 0 (eAv _) ⟨⟨by unfold v39; rw [List.map_map]; exact hbn,fun x=>by simp [v48]⟩,fun c hc=>by simp at hc⟩
 ·obtain ⟨⟨hMn,hM⟩,hin⟩:=hI
  obtain ⟨c,hc⟩:=z1v hi
  obtain ⟨hw,h0⟩:=stp i (by omega)
  have hlt:(i:Int)<a.length:=by omega
  have hrow:=v5u (fl:=fl) hc
  have hni:c.n∉(a.take i).map (·.n):=by
   intro hm
   have:=v4w han hc
   rw [z85] at this
   apply this.1
   unfold v39
   rw [List.map_map]
   exact hm
  have hv:=hM c.n
  rw [if_neg hni] at hv
  cases hq:fdC b c.n with
  |none=>
   rw [hq] at hv
   have hh:(z23 M c.n).isSome=false:=by rw [hv]; rfl
   refine .inr ⟨.inl (15,()),by simp only [v4n,z2d,z2e,z0p,z1a,z5s,y4y,z0p,z1a,z4b,Int.reduceLT,Int.reduceEq,Int.reduceLE,hrow,hlt,h0,hw,v91,v7d,hh], .inl ⟨rfl,fun hall=>?_⟩⟩
   rw [v3z hbn (hall c (eAu hc))] at hq
   cases hq
  |some x=>
   rw [hq] at hv
   have hh:(z23 M c.n).isSome=true:=by rw [hv]; rfl
   have m0:=M_0 (fl:=fl') hv
   have m1:=M_1 (fl:=fl') hv
   have m2:=M_2 (fl:=fl') hv
   have m3:=M_3 (fl:=fl') hv
   have md:=u1f (fl:=fl') hv
   have h80:=v7l x c (hbt x (v4l hq).1)
   simp only [z1a] at m2 h80
   by_cases e:x=c
   ·subst e
    rw [decide_eq_true rfl] at h80
    refine .inl ⟨v6m M x.n,by simp only [v4n,z2d,z2e,z0p,z1a,z5s,y4y,z0p,z1a,z4b,Int.reduceLT,Int.reduceEq,Int.reduceLE,hrow,hlt,h0,hw,v91,v7d,hh,m0,m1,m2,m3,h80,md,eAi,if_false],⟨hMn.sublist (v5c _ _),fun y=>?_⟩,fun d hd=>?_⟩
    ·rw [v49 y hMn,hM y,List.take_add_one,hc]
     by_cases hy:y=x.n
     ·subst hy; simp
     ·simp [hy]
    ·rw [List.take_add_one,hc] at hd
     rcases eBj.1 hd with hd|hd
     ·exact hin d hd
     ·have:d=x:=by simpa using hd
      subst this
      exact (v4l hq).1
   ·rw [decide_eq_false e] at h80
    refine .inr ⟨.inl (15,()),by simp only [v4n,z2d,z2e,z0p,z1a,z5s,y4y,z0p,z1a,z4b,Int.reduceLT,Int.reduceEq,Int.reduceLE,hrow,hlt,h0,hw,v91,v7d,hh,m0,m1,m2,m3,h80,e], .inl ⟨rfl,fun hall=>?_⟩⟩
    rw [v3z hbn (hall c (eAu hc))] at hq
    exact e (Option.some.inj hq).symm
 ·have hno:¬ (a.length:Int)<a.length:=by omega
  refine ⟨.inr (v3e fl' M,(A,(B,()))),by simp only [v4n,z2d,z2e,hno,if_false,z4b,Int.reduceLT,Int.reduceEq,Int.reduceLE], .inr ⟨M,rfl,?_,hI.1⟩⟩
  have:=hI.2
  rwa [eDi] at this
def v4q (a b:List Cd):Int:=if v4i a b≠0 then v4i a b else if ¬ a.Perm b then 15 else if z21 a=z21 b then 0 else 24
theorem v9u (a b:List Cd) (ha:Few a) (hb:Few b):G35 std (z0p fl a,(z0p fl' b,()))=some (v4q a b,()):=by
 have h78:=v9m (fl:=fl) (fl':=fl') a b ha hb
 unfold G35 v4q
 by_cases h:v4i a b=0
 ·obtain ⟨da,db⟩:=v3m.1 h
  obtain ⟨a1,a2,a3,a4,a5⟩:=z25 da
  obtain ⟨b1,b2,b3,b4,b5⟩:=z25 db
  have h79:=v9l (fl:=fl') b b1 b2
  have hla:(z0p fl a).length=a.length:=z2i a
  obtain ⟨r,hr,hQ⟩:=v68 (fl:=fl) (fl':=fl') (z0p fl a) (z0p fl' b) a b a1 a2 b2 hb
  rcases hQ with ⟨rfl,hne⟩|⟨M,rfl,hall,hM⟩
  ·have hp:¬ a.Perm b:=fun hp=>hne fun c hc=>hp.mem_iff.1 hc
   simp only [z2d,z2e,z4b,Int.reduceLT,Int.reduceEq,Int.reduceLE,h78,h,h79,hla,hr,hp,ne_eq]
  ·have hml:std.mlen (v3e fl' M)=M.length:=by show (v3e fl' M).length=_; simp [v3e,v5r.enc]
   have hMx:=hM.2
   rw [eDi] at hMx
   by_cases hme:M=[]
   ·subst hme
    have hp:a.Perm b:=by
     refine v29 a3 b3 fun c=>⟨hall c,fun hc=>?_⟩
     have:=hMx c.n
     rw [v3z b2 hc] at this
     split at this
     ·rename_i hm
      obtain ⟨d,hd,he⟩:=eBb.1 hm
      rw [←z24 b2 d (hall d hd) c hc he]
      exact hd
     ·cases this
    obtain ⟨IX,ss,g66,g67⟩:=v3b (fl:=fl) da
    obtain ⟨IX',ss',g66',g67'⟩:=v3b (fl:=fl') db
    have hla2:=(z28 a3).1.length_eq
    have h81:=v9k (fl:=fun _=>false) (fl':=fun _=>false) (z21 a) (z21 b) (by rw [←hla2]; omega) (fun c hc=>by have:=(a5 c ((z28 a3).1.mem_iff.2 hc)).2.1; omega)
    have tS:∀ E:List (List D),E.take E.length=E:=fun E=>eDi
    have hm0:¬ (0:Int)<((0:Nat):Int):=by omega
    simp only [eDc] at hml
    by_cases e:z21 a=z21 b
    ·rw [decide_eq_true e] at h81
     rw [←e] at g67' h81
     have hs:(if z21 a=z21 b then (0:Int) else 24)=0:=if_pos e
     simp only [z2d,z2e,z4b,Int.reduceLT,Int.reduceEq,Int.reduceLE,h78,h,h79,hla,hr,hp,ne_eq,hml,hm0,g66,g67,g66',g67',h81,tS,eAp,eAk,eDb,hs,eDn,eAi,if_false]
    ·rw [decide_eq_false e] at h81
     simp only [z2d,z2e,z4b,Int.reduceLT,Int.reduceEq,Int.reduceLE,h78,h,h79,hla,hr,hp,ne_eq,hml,hm0,g66,g67,g66',g67',h81,tS,eAp,eAk,eDb,e,eDn]
   ·have hp:¬ a.Perm b:=by
     intro hp
     obtain ⟨x,c,hc⟩:=v8s hme
     rw [hMx x] at hc
     split at hc
     ·cases hc
     ·rename_i hm
      obtain ⟨h1,h2⟩:=v4l hc
      exact hm (eBb.2 ⟨c,hp.mem_iff.2 h1,h2⟩)
    have hm1:(0:Int)<(M.length:Int):=by
     have:0<M.length:=List.length_pos_iff.2 hme
     omega
    simp only [z2d,z2e,z4b,Int.reduceLT,Int.reduceEq,Int.reduceLE,h78,h,h79,hla,hr,hp,ne_eq,hml,hm1]
 ·simp only [z2d,z2e,z4b,Int.reduceLT,Int.reduceEq,Int.reduceLE,h78,h,ne_eq]
end Go.Am
end
section
namespace Go.Am
open D12
variable {fl fl':List Int→Bool}
theorem v8e (l:List Int) (hl:l.length≤1000000) (hn:l.Nodup):v8f std (z1a l,())=some (z1a (srt l),()):=by
 have hs:=(srt_perm l).length_eq
 obtain ⟨R,k,hr,hR,hk⟩:=x90 (srt l) (by omega)
 have hna:¬ Adj (srt l):=fun h=>y2h h ((srt_perm l).nodup_iff.2 hn)
 have hk:R=srt l∧k=(srt l).length:=by
  rcases hk with ⟨_,h1,h2⟩|⟨h,_⟩
  ·exact ⟨h1,h2⟩
  ·exact absurd h hna
 obtain ⟨rfl,rfl⟩:=hk
 have h108:=x91 l hl
 rw [hs] at hr
 unfold v8f
 have h1:(0:Int)≤l.length:=by omega
 have h2:(l.length:Int)≤1000000:=by omega
 simp only [z2d,z2e,z4b,Int.reduceLT,Int.reduceEq,Int.reduceLE,z00,h1,h2,List.length_replicate,eAk,Int.le_refl,eAp]
 have hsp:=spl l
 simp only [z00,eAp] at hsp
 simp only [hsp,h108,z2d,z2e,hr,z00,hs,eAk,eDb]
 have:(z1a (srt l)).take l.length=z1a (srt l):=eDf (by rw [z00,hs]; exact eAk _)
 simp [this]
namespace D12
def mxl (L:List (Int×Nat)):List Int→Nat
 |[]=>0
 |x::t=>max ((z23 L x).getD 0) (mxl L t)
theorem v51 {L:List (Int×Nat)} {t:List Int} {m:Nat}:mxl L t≤m↔∀ x∈t,(z23 L x).getD 0≤m:=by
 induction t with
 |nil=>simp [mxl]
 |cons x t ih=>
  simp only [mxl,eAz,Nat.max_le,ih]
  constructor
  ·rintro ⟨h1,h2⟩ y (rfl|h)
   ·exact h1
   ·exact h2 y h
  ·intro h; exact ⟨h x (.inl rfl),fun y hy=>h y (.inr hy)⟩
structure v90 (l:List Cd) (F:Cd→Nat) (p:List Cd) (L:List (Int×Nat)):Prop where
 last:∀ x,z23 L x=(on x p).getLast?.map F
theorem v6q {l p q:List Cd} {c:Cd} (hn:l.Nodup) (hl:l=p++c::q) {F:Cd→Nat} (hF:Rd l F) {L:List (Int×Nat)} (hL:v90 l F p L):mxl L c.t+1=F c:=by
 have hcl:c∈l:=by rw [hl]; simp
 have hcp:c∉p:=by
  rw [hl] at hn
  exact fun h=>(List.nodup_append.1 hn).2.2 c h c (eBq ..) rfl
 have hpc:pre l c=p:=v37 hl hcp
 rw [hF c hcl]
 congr 1
 apply Nat.le_antisymm
 ·rw [v51]
  intro x hx
  rw [hL.last x]
  cases hq:(on x p).getLast? with
  |none=>simp
  |some e=>
   have hep:=x3y.1 (eDe hq)
   have hel:e∈l:=by rw [hl]; exact eDv _ hep.1
   refine z70 (eDa.2 ⟨hel,?_⟩)
   have:e∈pre l c:=by rw [hpc]; exact hep.1
   exact x2a.2 ⟨w32.2 ⟨x,hep.2,hx⟩,(v3w hel).1 this⟩
 ·rw [v3p]
  intro d hd
  obtain ⟨hdl,hdo⟩:=eDa.1 hd
  obtain ⟨ht,hi⟩:=x2a.1 hdo
  obtain ⟨x,hxd,hxc⟩:=w32.1 ht
  have hdp:d∈p:=by rw [←hpc]; exact (v3w hdl).2 hi
  have hdon:d∈on x p:=x3y.2 ⟨hdp,hxd⟩
  obtain ⟨e,he⟩:∃ e,(on x p).getLast?=some e:=by
   cases hq:(on x p).getLast? with
   |none=>rw [List.getLast?_eq_none_iff.1 hq] at hdon; cases hdon
   |some e=>exact ⟨e,rfl⟩
  have h1:=v51.1 (eAk (mxl L c.t)) x hxc
  rw [hL.last x,he] at h1
  refine eBf ?_ h1
  show F d≤F e
  have hep:=x3y.1 (eDe he)
  have hel:e∈l:=by rw [hl]; exact eDv _ hep.1
  by_cases e1:d=e
  ·rw [e1]; exact eAk _
  ·have hpn:p.Nodup:=by rw [hl] at hn; exact (List.nodup_append.1 hn).1
   have hlt:l.idxOf d<l.idxOf e:=by
    have hip:∀ z∈p,l.idxOf z=p.idxOf z:=fun z hz=>by rw [hl,List.idxOf_append,if_pos hz]
    rw [hip d hdp,hip e hep.1]
    have hpw:=(w29 hpn).filter (fun c=>c.t.contains x)
    have hne:on x p≠[]:=fun h=>by rw [h] at hdon; cases hdon
    have hsp:on x p=(on x p).dropLast++[e]:=by
     have:=List.dropLast_concat_getLast hne
     have e2:(on x p).getLast hne=e:=by
      rw [List.getLast?_eq_some_getLast hne] at he
      exact Option.some.inj he
     rw [e2] at this; exact this.symm
    have hpw':(on x p).Pairwise fun u v=>p.idxOf u<p.idxOf v:=hpw
    rw [hsp] at hpw' hdon
    rcases eBj.1 hdon with h|h
    ·exact (List.pairwise_append.1 hpw').2.2 d h e (by simp)
    ·exact absurd (eBe.1 h) e1
   exact Nat.le_of_lt (v5x hF hdl hel (x2a.2 ⟨w32.2 ⟨x,hxd,hep.2⟩,hlt⟩))
def v25 (F:Cd→Nat) (p:List Cd):List (List Int):=(List.range (mxs F p)).map fun m=>v24 p F (m+1)
theorem v5t (F:Cd→Nat) (p:List Cd):(v25 F p).length=mxs F p:=by simp [v25]
theorem v35 {F:Cd→Nat} {p:List Cd} {c:Cd} (m:Nat):v24 (p++[c]) F m=if F c=m then srt (v24 p F m++[c.n]) else v24 p F m:=by
 unfold v24
 rw [List.filter_append,eDh]
 by_cases h:F c=m
 ·rw [if_pos h,List.filter_cons_of_pos (by simpa using h)]
  refine x69 ?_
  simp only [List.filter_nil,List.map_cons,List.map_nil]
  exact List.Perm.append_right _ (srt_perm _).symm
 ·rw [if_neg h,List.filter_cons_of_neg (by simpa using h)]
  simp
theorem v5e {F:Cd→Nat} {p:List Cd} {c:Cd} {r:Nat} (hr:r+1=F c) (hle:r≤mxs F p):
  ((v25 F p++if r=mxs F p then [[]] else []).set r (srt (v24 p F (r+1)++[c.n])))=v25 F (p++[c]):=by
 have hm:mxs F (p++[c])=if r=mxs F p then mxs F p+1 else mxs F p:=by
  rw [v5g]
  have:mxs F [c]=F c:=by simp [mxs]
  rw [this, ←hr]
  split<;>omega
 apply eBd
 intro i
 unfold v25
 rw [hm]
 by_cases hi:i=r
 ·subst hi
  rw [List.getElem?_set_self (by simp; split<;>simp<;>omega),eAg,eDo (by split<;>omega)]
  simp only [eBh]
  rw [v35,if_pos hr.symm]
 ·rw [List.getElem?_set_ne (fun h=>hi h.symm)]
  have hne:¬ F c=i+1:=by omega
  by_cases hlt:i<mxs F p
  ·rw [eBz (by simpa using hlt),eAg,eAg,eDo hlt,eDo (by split<;>omega)]
   simp only [eBh]
   rw [v35,if_neg hne]
  ·rw [eCv (by simpa using hlt),eCt (l:=(List.range _).map _) (by simp; split<;>omega)]
   split
   ·rename_i h
    rw [eCt]
    simp; omega
   ·simp
end D12
theorem v7a (R lc ls:List (List D)) (cn ck ca n i:Int) (L:List (Int×Nat)) (t:List Int) (ht:t.length≤1000000):
  z5r (v5o std) (z46 L,(R,(cn,(ck,(lc,(ca,((0:Int),(ls,(n,(i,(z1a t,((t.length:Int),((0:Int),())))))))))))))=some (z46 L,(R,(cn,(ck,(lc,(ca,(((mxl L t:Nat):Int),(ls,(n,(i,())))))))))):=by
 have key:=z37 (b:=v5o std) t (fun (r:Nat) j=>(z46 L,(R,(cn,(ck,(lc,(ca,((r:Int),(ls,(n,(i,(z1a t,((t.length:Int),((j:Int),())))))))))))))) (fun r x=>max r ((z23 L x).getD 0)) (fun _ _=>True) (fun r=>(z46 L,(R,(cn,(ck,(lc,(ca,((r:Int),(ls,(n,(i,())))))))))))
  (fun r j x hx _=>by
   have hj:j<t.length:=(eAd.1 hx).1
   obtain ⟨hw,h0⟩:=stp j (by omega)
   have hlt:(j:Int)<t.length:=by omega
   have hrow:=v95 hx
   refine ⟨?_,trivial⟩
   cases hv:z23 L x with
   |none=>
    have hh:(z23 L x).isSome=false:=by rw [hv]; rfl
    have hm:max (r:Int) 0=((max r 0:Nat):Int):=by omega
    simp only [v5o,z2d,z2e,z1a,y8q,w5s,z4b,Int.reduceLT,Int.reduceEq,Int.reduceLE,hx,hrow,hlt,h0,hw,v7c,v33,hv,Option.isSome_none,eAi,if_false,hm,Option.getD_none]
   |some k=>
    have hg:=v8c hv
    have hm:max (r:Int) (k:Int)=((max r k:Nat):Int):=by omega
    simp only [v5o,z2d,z2e,z1a,y8q,w5s,z4b,Int.reduceLT,Int.reduceEq,Int.reduceLE,hx,hrow,hlt,h0,hw,v7c,v33,hv,Option.isSome_some,hg,hm,eBk])
  (fun r _=>by
   have hno:¬ (t.length:Int)<t.length:=by omega
   simp only [v5o,z2d,z2e,hno,if_false,z4b,Int.reduceLT,Int.reduceEq,Int.reduceLE]) 0 trivial
 have hfold:∀ (t:List Int) (r:Nat),t.foldl (fun r x=>max r ((z23 L x).getD 0)) r=max r (mxl L t):=by
  intro t
  induction t with
  |nil=>intro r; simp [mxl]
  |cons x t ih=>intro r; rw [eDt,ih,mxl]; omega
 have h:=key.1
 rw [hfold t 0] at h
 simp only [Nat.zero_max] at h
 exact h
theorem v69 (R ls:List (List D)) (n i:Int) (r:Nat) (hr:r≤1000000) (t:List Int) (ht:t.length≤1000000) (L:List (Int×Nat)):
  z5r (v5n std) (z46 L,(R,((r:Int),(ls,(n,(i,(z1a t,((t.length:Int),((0:Int),())))))))))=some (z46 (t.foldl (fun L x=>v32 L x (r+1)) L),(R,(ls,(n,(i,()))))):=by
 have key:=z37 (b:=v5n std) t (fun (L:List (Int×Nat)) j=>(z46 L,(R,((r:Int),(ls,(n,(i,(z1a t,((t.length:Int),((j:Int),())))))))))) (fun L x=>v32 L x (r+1)) (fun _ _=>True) (fun L=>(z46 L,(R,(ls,(n,(i,()))))))
  (fun L j x hx _=>by
   have hj:j<t.length:=(eAd.1 hx).1
   obtain ⟨hw,h0⟩:=stp j (by omega)
   have hlt:(j:Int)<t.length:=by omega
   have hrow:=v95 hx
   have hwr:IntKind.i64.wrap ((r:Int)+1)=((r+1:Nat):Int):=w0a (by omega)
   refine ⟨?_,trivial⟩
   cases hv:z23 L x with
   |none=>
    have ha:=v8d hv (r+1)
    simp only [v5n,z2d,z2e,z1a,y8q,w5s,z4b,Int.reduceLT,Int.reduceEq,Int.reduceLE,hx,hrow,hlt,h0,hw,hwr,v7c,v33,hv,Option.isSome_none,eAi,if_false,ha]
   |some k=>
    have ha:=v9i hv (r+1)
    simp only [v5n,z2d,z2e,z1a,y8q,w5s,z4b,Int.reduceLT,Int.reduceEq,Int.reduceLE,hx,hrow,hlt,h0,hw,hwr,v7c,v33,hv,Option.isSome_some,ha])
  (fun L _=>by
   have hno:¬ (t.length:Int)<t.length:=by omega
   simp only [v5n,z2d,z2e,hno,if_false,z4b,Int.reduceLT,Int.reduceEq,Int.reduceLE]) L trivial
 exact key.1
theorem v4s (r:Nat):∀ (t:List Int) (L:List (Int×Nat)) (x:Int),z23 (t.foldl (fun L x=>v32 L x r) L) x=if x∈t then some r else z23 L x
 |[],L,x=>by simp
 |y::t,L,x=>by
  rw [eDt,v4s r t,z63]
  by_cases h:x∈t
  ·simp [h]
  ·by_cases e:x=y
   ·simp [e]
   ·simp [h,e]
theorem v5v {l p:List Cd} {F:Cd→Nat} {L:List (Int×Nat)} {c:Cd} (h:v90 l F p L):v90 l F (p++[c]) (c.t.foldl (fun L x=>v32 L x (F c)) L):=by
 refine ⟨fun x=>?_⟩
 rw [v4s,v38,h.last x]
 by_cases hx:x∈c.t
 ·have:on x [c]=[c]:=by rw [v50 hx]; rfl
  rw [if_pos hx,this]; simp
 ·have:on x [c]=[]:=by simp [on,hx]
  rw [if_neg hx,this]; simp
def tru:List Int→Bool:=fun _=>true
theorem v3o {l:List Cd} (hn:l.Nodup) {F:Cd→Nat} (hF:Rd l F):∀ (p q:List Cd),l=p++q→mxs F p≤p.length:=by
 have key:∀ (n:Nat) (c:Cd),c∈l→l.idxOf c=n→F c≤n+1:=by
  intro n
  induction n using Nat.strongRecOn with
  |_ n ih=>
   intro c hc hi
   rw [hF c hc]
   have:mxs F (l.filter fun d=>ord l d c)≤n:=v3p.2 fun d hd=>by
    obtain ⟨h1,h2⟩:=eDa.1 hd
    have h3:=(x2a.1 h2).2
    have:=ih (l.idxOf d) (by omega) d h1 rfl
    omega
   omega
 intro p q hl
 rw [v3p]
 intro c hc
 have hcl:c∈l:=by rw [hl]; exact eDv _ hc
 have h1:=key _ c hcl rfl
 have h2:l.idxOf c<p.length:=by rw [hl,List.idxOf_append,if_pos hc]; exact eDs hc
 omega
theorem v7b (l:List Cd) (hl:l.length≤60) (hm:(l.map (·.n)).Nodup) (hf:Few l):
  z5r (v5p std) ([],([],(z0p fl l,((l.length:Int),((0:Int),())))))=some (z41 tru (z20 l),()):=by
 have hn:=z32 hm
 have hF:=v3v l
 generalize hFF:v26 l=F at hF
 have key:=y6h (b:=v5p std) l.length (fun (L:List (Int×Nat)) i=>(z46 L,(z41 tru (v25 F (l.take i)),(z0p fl l,((l.length:Int),((i:Int),())))))) (fun L i=>v90 l F (l.take i) L) (fun r=>r=(z41 tru (z20 l),()))
  (fun L i hi hI=> .inl (by
   obtain ⟨c,hc⟩:=z1v hi
   obtain ⟨hw,h0⟩:=stp i (by omega)
   have hlt:(i:Int)<l.length:=by omega
   have hrow:=v5u (fl:=fl) hc
   have hsp:l=l.take i++c::l.drop (i+1):=by
    conv=>lhs; rw [←List.take_append_drop i l,v43 hc]
   have hr:=v6q hn hsp hF hI
   have hlen:=v3o hn hF (l.take i) _ hsp
   rw [eBv] at hlen
   have htk:l.take (i+1)=l.take i++[c]:=by rw [List.take_add_one,hc]; rfl
   have hle:mxl L c.t≤mxs F (l.take i):=by
    rw [v51]
    intro x hx
    rw [hI.last x]
    cases hq:(on x (l.take i)).getLast? with
    |none=>simp
    |some e=>exact z70 (v4v (eDe hq))
   have hstep:=v5e (F:=F) (p:=l.take i) (c:=c) hr hle
   have h2:=v7a (z41 tru (v25 F (l.take i))) (c.t.map eI) (z0p fl l) c.n c.k c.a (l.length:Int) (i:Int) L c.t (hf c (eAu hc))
   have hRn:(l.take i).length≤60:=by rw [eBv]; omega
   have hnum:∀ m,(v24 (l.take i) F m).length≤60∧(v24 (l.take i) F m++[c.n]).Nodup:=by
    intro m
    have hp:(v24 (l.take i) F m).Perm (((l.take i).filter fun c=>decide (F c=m)).map (·.n)):=srt_perm _
    refine ⟨?_,?_⟩
    ·rw [hp.length_eq,eBt]; exact eBf (List.length_filter_le _ _) hRn
    ·refine (List.Perm.append_right [c.n] hp).nodup_iff.2 ?_
     have h3:((l.take (i+1)).map (·.n)).Nodup:=hm.sublist ((List.take_sublist _ _).map _)
     rw [htk,eDh] at h3
     exact h3.sublist (List.Sublist.append ((List.filter_sublist).map _) (List.Sublist.refl _))
   have h57:=fun m=>v8e (v24 (l.take i) F m++[c.n]) (by have:=(hnum m).1; simp; omega) (hnum m).2
   generalize hrr:mxl L c.t=r at*
   have h3:=fun R=>v69 R (z0p fl l) (l.length:Int) (i:Int) r (by omega) c.t (hf c (eAu hc)) L
   rw [hr] at h3
   refine ⟨c.t.foldl (fun L x=>v32 L x (F c)) L,?_,by rw [htk]; exact v5v hI⟩
   rw [htk, ←hstep]
   have hRl:=v5t F (l.take i)
   have hgetR:∀ m,m<mxs F (l.take i)→(v25 F (l.take i))[m]?=some (v24 (l.take i) F (m+1)):=fun m hm=>by
    unfold v25; rw [eAg,eDo hm]; rfl
   generalize v25 F (l.take i)=R at*
   have hel:(R.map (eLf tru)).length=mxs F (l.take i):=by rw [eBt,hRl]
   have hr0:(0:Int)≤(r:Int):=by omega
   have htl:(c.t.map eI).length=c.t.length:=by simp
   have hF2:∀ (E:List (List D)) (f:Bool) (z:Nat) (es:List (List D)),E[r]?=some [D.list f z es]→std.rdF E r 0 1=(f&&(Nat.beq 1 z||es.isEmpty)):=fun E f z es h=>by
    show dF 1 (((E[r]?).bind fun r=>r[0]?).getD .nilp)=_
    rw [h]; rfl
   by_cases e:r=mxs F (l.take i)
   ·have hnil:v24 (l.take i) F (r+1)=[]:=by
     have:(l.take i).filter (fun c=>decide (F c=r+1))=[]:=by
      rw [List.filter_eq_nil_iff]
      intro d hd
      have:=z70 (F:=F) hd
      simp; omega
     unfold v24; rw [this]; rfl
    have h57':=h57 (r+1)
    rw [hnil] at h57'⊢
    rw [if_pos e]
    clear hnum h57 hgetR hstep hnil
    rw [←e] at hel hRl hlen hle
    have hee:(mxs F (l.take i):Nat)=r:=e.symm
    have c2:(r:Int)<((r+1:Nat):Int):=by omega
    have c3:r+1≤1000000:=by omega
    have c4:(R.map (eLf tru)).take r=R.map (eLf tru):=eDf (by omega)
    have hrw:(R.map (eLf tru)++[[D.list true 0 []]])[r]?=some [D.list true 0 []]:=by
     rw [eCv (by omega),hel,eDm]; rfl
    have hrF:=hF2 _ _ _ _ hrw
    have hset:(R.map (eLf tru)++[[D.list true 0 []]]).set r [D.list true 1 (z1a (srt ([]++[c.n])))]=((R++[[]]).set r (srt ([]++[c.n]))).map (eLf tru):=by
     rw [List.set_append_right _ _ (by omega),List.set_append_right _ _ (by omega),hel,hRl,eDm]
     simp [eLf,tru]
    have hln:(R.map (eLf tru)++[[D.list true 0 []]]).length=r+1:=by rw [eBu,hel]; rfl
    have hln2:(((R++[[]]).set r (srt ([]++[c.n]))).map (eLf tru)).length=r+1:=by simp [hRl]
    have hcok:z3k [CK.list 1] [D.list true 0 []]=true:=rfl
    have hdl:dL (D.list true 0 [])=[]:=rfl
    have hrF:std.rdF (R.map (eLf tru)++[[D.list true 0 []]]) r 0 1=true:=hrF
    have h57':v8f std ([[D.int .i64 c.n]],())=some ((srt [c.n]).map eI,()):=h57'
    have hset:(R.map (eLf tru)++[[D.list true 0 []]]).set r [D.list true 1 ((srt [c.n]).map eI)]=((R++[[]]).set r (srt [c.n])).map (eLf tru):=hset
    have hln2:(((R++[[]]).set r (srt [c.n])).map (eLf tru)).length=r+1:=hln2
    have c5:1≤1000000:=by omega
    simp only [z41,z0p,z1a] at h2 h3
    simp only [v5p,z2d,z2e,z0p,z1a,z5s,y4y,z41,z0p,z1a,z4b,Int.reduceLT,Int.reduceEq,Int.reduceLE,hc,hrow,hlt,h0,hw,h2,hel,c2,c3,c4,hln,eDb,eDg,eDp,eAk,eDn,if_true,hr0,hrw,hcok,hdl,hrF,eAp,eDd,eCo,eBk,eDc,c5,h57',hset,hln2,h3,htl]
   ·have hlt2:r<mxs F (l.take i):=by omega
    have h57':=h57 (r+1)
    have hrl:=(hnum (r+1)).1
    have hg:=hgetR r hlt2
    rw [if_neg e,eCn]
    clear hnum h57 hgetR hstep
    generalize v24 (l.take i) F (r+1)=S at*
    generalize mxs F (l.take i)=M at*
    have c1:¬ (r:Int)=(M:Int):=by omega
    have c2:(r:Int)<(M:Int):=by omega
    have hrw:(R.map (eLf tru))[r]?=some [D.list true 1 (S.map eI)]:=by rw [eAg,hg]; rfl
    have hrF:std.rdF (R.map (eLf tru)) r 0 1=true:=hF2 _ _ _ _ hrw
    have hset:(R.map (eLf tru)).set r [D.list true 1 ((srt (S++[c.n])).map eI)]=(R.set r (srt (S++[c.n]))).map (eLf tru):=by
     rw [List.map_set]; rfl
    have hln2:((R.set r (srt (S++[c.n]))).map (eLf tru)).length=M:=by simp [hRl]
    have hcok:z3k [CK.list 1] [D.list true 1 (S.map eI)]=true:=rfl
    have hdl:dL (D.list true 1 (S.map eI))=S.map eI:=rfl
    have hsl:(S.map eI).length=S.length:=by simp
    have c5:S.length+1≤1000000:=by omega
    have h57':v8f std (S.map eI++[[D.int .i64 c.n]],())=some ((srt (S++[c.n])).map eI,()):=by
     have e2:S.map eI++[[D.int .i64 c.n]]=z1a (S++[c.n]):=by simp [z1a,eI]
     rw [e2]; exact h57'
    simp only [z41,z0p,z1a] at h2 h3
    simp only [v5p,z2d,z2e,z0p,z1a,z5s,y4y,z41,z0p,z1a,z4b,Int.reduceLT,Int.reduceEq,Int.reduceLE,hc,hrow,hlt,h0,hw,h2,hel,c1,c2,eDb,eDg,eDp,eAk,eDn,if_true,hr0,hrw,hcok,hdl,hrF,eAp,eCo,eBk,hsl,c5,h57',hset,hln2,h3,htl]))
  (fun L hI=>⟨(z41 tru (z20 l),()),by
   have hno:¬ (l.length:Int)<l.length:=by omega
   rw [eDi]
   have:v25 F l=z20 l:=by unfold v25 z20; rw [hFF]
   rw [this]
   simp only [v5p,z2d,z2e,hno,if_false,z4b,Int.reduceLT,Int.reduceEq,Int.reduceLE],rfl⟩) [] 0 (eAv _) ⟨fun x=>by simp [z23,on]⟩
 obtain ⟨r,h1,rfl⟩:=key
 exact h1
theorem v7o (l:List Cd) (hf:Few l):G27 std (z0p fl l,())=some ((if z4y l=0 then z41 tru (z20 l) else []),(z4y l,())):=by
 have h19:=w3q (fl:=fl) l hf
 have hle:(z0p fl l).length=l.length:=z2i l
 unfold G27
 by_cases h:z4y l=0
 ·obtain ⟨h1,h2,h3,h4,h5⟩:=z25 h
  have hb:=v7b (fl:=fl) l h1 h2 hf
  simp only [z2d,z2e,z4b,Int.reduceLT,Int.reduceEq,Int.reduceLE,h19,h,hle,hb]
 ·simp only [z2d,z2e,z4b,Int.reduceLT,Int.reduceEq,Int.reduceLE,h19,h]
end Go.Am
end
section
namespace Go.Am
open D12
variable {fl fl':List Int→Bool}
theorem v76 (l L M:List Cd) (by':List Int) (i k:Nat) {c:Cd} (hL:L.length≤60) (hM:M.length≤60) (hi:i≤60) (hb:by'.length≤200) (hz:∀ z∈by',0≤z∧z≤255) (hc:L[k]?=some c)
  (hk:(by'.length=0∧k=0)∨∃ z,by'.length≠0∧by'[i % by'.length]?=some z∧std.ar .rem .i64 z (L.length:Int)=(k:Int)):
  v5q std (z0p fl L,(z0p fl M,(z0p fl l,(v3k by',(0,(L.length,((i:Int),())))))))=some (.inl (z0p fl (L.take k++L.drop (k+1)),(z0p fl (M++[c]),(z0p fl l,(v3k by',(0,(L.length - 1,(((i+1:Nat):Int),())))))))):=by
 have hkl:k<L.length:=(eAd.1 hc).1
 obtain ⟨hw,h0⟩:=stp i (by omega)
 have hrow:=v5u (fl:=fl) hc
 have hF:std.rdF (L.map (eC fl)) k 2 1=fl c.t:=v96 ‹_›
 have hll:(L.map (eC fl)).length=L.length:=by simp
 have hml:(M.map (eC fl)).length=M.length:=by simp
 have hyl:(by'.map eY).length=by'.length:=by simp
 have a1:M.length+1≤1000000:=by omega
 have a5:(M.map (eC fl)).take M.length=M.map (eC fl):=eDf (by simp)
 have c1:(0:Int)<(L.length:Int):=by omega
 have c2:¬ (L.length:Int)=0:=by omega
 have wk:IntKind.i64.wrap ((k:Int)+1)=((k+1:Nat):Int):=w0a (by omega)
 have k0:(0:Int)≤(k:Int):=by omega
 have k1:(k:Int)<(L.length:Int):=by omega
 have k2:(k:Int)≤(L.length:Int):=by omega
 have k3:((k+1:Nat):Int)≤(L.length:Int):=by omega
 have k4:(0:Int)≤((k+1:Nat):Int):=by omega
 have k5:k≤L.length:=by omega
 have k6:k+1+(L.length - (k+1))=L.length:=by omega
 have k8:(L.length:Int)≤(L.length:Int):=by omega
 have rr:std.ar .rem .i64 (i:Int) (by'.length:Int)=((i % by'.length:Nat):Int):=by
  rw [v21,Int.tmod_eq_emod_of_nonneg (by omega)]; omega
 have p1:(0:Int)≤((i % by'.length:Nat):Int):=by omega
 have hout:((L.take k++L.drop (k+1)).map (eC fl))=(L.map (eC fl)).take k++(L.map (eC fl)).drop (k+1):=by simp
 have hpart:∀ s:List (List D),s=(L.map (eC fl)).take k++(L.map (eC fl)).drop (k+1)→s=((L.take k++L.drop (k+1)).map (eC fl)):=fun s h=>by rw [hout,h]
 have t0:Int.toNat 0=0:=rfl
 have hnil:∀ n,([]:List (List D)).drop n=[]:=fun n=>List.drop_nil
 have hb':(by'.length=0∧k=0)∨∃ z,(0:Int)<(by'.length:Int)∧¬ (by'.length:Int)=0∧(by'.map eY)[i % by'.length]?=some (eY z)∧IntKind.i64.wrap z=z∧std.ar .rem .i64 z (L.length:Int)=(k:Int):=by
  rcases hk with h|⟨z,hb1,hzk,hr⟩
  ·exact .inl h
  ·obtain ⟨z0,z1⟩:=hz z (eAu hzk)
   exact .inr ⟨z,by omega,by omega,by rw [eAg,hzk]; rfl,w21 _ (by omega) (by omega),hr⟩
 have hcut:∀ n,(L.map (eC fl)).take n=(L.take n).map (eC fl):=fun n=>by simp
 have hcut2:∀ n,(L.map (eC fl)).drop n=(L.drop n).map (eC fl):=fun n=>by simp
 have hend:((L.drop (k+1)).take (L.length - (k+1)))=L.drop (k+1):=eDf (by simp)
 have hend':((L.drop (k+1)).map (eC fl)).take (L.length - (k+1))=(L.drop (k+1)).map (eC fl):=eDf (by simp)
 have hend2:((L.drop 1).map (eC fl)).take (L.length - 1)=(L.drop 1).map (eC fl):=eDf (by simp)
 have hmm:(M++[c]).map (eC fl)=M.map (eC fl)++[[D.int .i64 c.n,D.int .i64 c.k,D.list (fl c.t) 1 (c.t.map eI),D.int .i64 c.a]]:=by simp [eC,z1a]
 have hml1:(M.map (eC fl)++[[D.int .i64 c.n,D.int .i64 c.k,D.list (fl c.t) 1 (c.t.map eI),D.int .i64 c.a]]).length=M.length+1:=by simp
 rcases hb' with ⟨hb0,rfl⟩|⟨z,hby',hby2,hzr,wz,hr⟩
 ·have hby':¬ (0:Int)<(by'.length:Int):=by omega
  have w1:IntKind.i64.wrap 1=1:=rfl
  have z1:(1:Int)≤(L.length:Int):=by omega
  have z2:(0:Int)≤(L.length:Int):=by omega
  have z3:Int.toNat 1=1:=rfl
  have z4:1≤L.length:=by omega
  have k6':1+(L.length - 1)=L.length:=by omega
  by_cases hl1:L.length - 1=0
  ·have hd:L.drop 1=[]:=List.drop_eq_nil_of_le (by omega)
   simp only [v5q,z2d,z2e,z0p,z1a,z5s,y4y,z0p,v3k,z59,v5j,z4b,Int.reduceLT,Int.reduceEq,Int.reduceLE,hc,hrow,hll,hml,hyl,hby',hF,a1,a5,c1,c2,wk,k0,k1,k2,k3,k4,k5,k6,k8,t0,hcut,hcut2,hend,hend',hend2,hmm,hml1,hnil,hw,eAp,eDr,eAk,eDb,eDg,eDp,eDd,eCn,eDh,List.map_nil,eDc,eAt,eDm,w1,z1,z2,z3,z4,k6',hl1,hd,Int.zero_add]
   done
  ·have q2:¬ L.length - 1≤0:=by omega
   have q4:1≤L.length - 1:=by omega
   have q6:L.length - 1≤1000000:=by omega
   simp only [v5q,z2d,z2e,z0p,z1a,z5s,y4y,z0p,v3k,z59,v5j,z4b,Int.reduceLT,Int.reduceEq,Int.reduceLE,hc,hrow,hll,hml,hyl,hby',hF,a1,a5,c1,c2,wk,k0,k1,k2,k3,k4,k5,k6,k8,t0,hcut,hcut2,hend,hend',hend2,hmm,hml1,hnil,hw,eAp,eDr,eAk,eDb,eDg,eDp,eDd,eCn,eDh,List.map_nil,eDc,eAt,eDm,w1,z1,z2,z3,z4,k6',q2,q4,q6,Int.zero_add]
   done
 ·by_cases hk0:k≤0
  ·have hrest:L.take k=[]:=by rw [Nat.le_zero.1 hk0]; rfl
   have hkz:k=0:=by omega
   by_cases hl1:L.length - (k+1)≤0
   ·have hd:L.drop (k+1)=[]:=List.drop_eq_nil_of_le (by omega)
    have q3:L.length - 1=0:=by omega
    have q4:L.length - (k+1)=0:=by omega
    have q5:k+(L.length - (k+1))≤0:=by omega
    simp only [v5q,hby2,rr,p1,hzr,wz,hr,z2d,z2e,z0p,z1a,z5s,y4y,z0p,v3k,z59,v5j,z4b,Int.reduceLT,Int.reduceEq,Int.reduceLE,hc,hrow,hll,hml,hyl,hby',hF,a1,a5,c1,c2,wk,k0,k1,k2,k3,k4,k5,k6,k8,t0,hcut,hcut2,hend,hend',hend2,hmm,hml1,hnil,hw,eAp,eDr,eAk,eDb,eDg,eDp,eDd,eCn,eDh,List.map_nil,eDc,eAt,eDm,hk0,hl1,q3,q5,hd,hrest]
    rw [hkz]
   ·have q5:¬ k+(L.length - (k+1))≤0:=by omega
    have q6:k+(L.length - (k+1))≤1000000:=by omega
    have q7:k+(L.length - (k+1))=L.length - 1:=by omega
    have q8:1≤L.length - (k+1):=by omega
    simp only [v5q,hby2,rr,p1,hzr,wz,hr,z2d,z2e,z0p,z1a,z5s,y4y,z0p,v3k,z59,v5j,z4b,Int.reduceLT,Int.reduceEq,Int.reduceLE,hc,hrow,hll,hml,hyl,hby',hF,a1,a5,c1,c2,wk,k0,k1,k2,k3,k4,k5,k6,k8,t0,hcut,hcut2,hend,hend',hend2,hmm,hml1,hnil,hw,eAp,eDr,eAk,eDb,eDg,eDp,eDd,eCn,eDh,List.map_nil,eDc,eAt,eDm,hk0,hl1,q5,q6,q8,hrest,List.take_nil]
    rw [q7]
  ·have q3:1≤k:=by omega
   have q5:k≤1000000:=by omega
   have q8:((L.take k).map (eC fl)).length=k:=by simp; omega
   have q9:((L.take k).map (eC fl)).take k=(L.take k).map (eC fl):=eDf (by simp; omega)
   by_cases hl1:L.length - (k+1)≤0
   ·have hd:L.drop (k+1)=[]:=List.drop_eq_nil_of_le (by omega)
    have q4:k=L.length - 1:=by omega
    simp only [v5q,hby2,rr,p1,hzr,wz,hr,z2d,z2e,z0p,z1a,z5s,y4y,z0p,v3k,z59,v5j,z4b,Int.reduceLT,Int.reduceEq,Int.reduceLE,hc,hrow,hll,hml,hyl,hby',hF,a1,a5,c1,c2,wk,k0,k1,k2,k3,k4,k5,k6,k8,t0,hcut,hcut2,hend,hend',hend2,hmm,hml1,hnil,hw,eAp,eDr,eAk,eDb,eDg,eDp,eDd,eCn,eDh,List.map_nil,eDc,eAt,eDm,hk0,hl1,q3,q5,q8,q9,hd]
    rw [←q4]
   ·have q2:1≤L.length - (k+1):=by omega
    have q6:k+(L.length - (k+1))≤1000000:=by omega
    have q7:k+(L.length - (k+1))=L.length - 1:=by omega
    simp only [v5q,hby2,rr,p1,hzr,wz,hr,z2d,z2e,z0p,z1a,z5s,y4y,z0p,v3k,z59,v5j,z4b,Int.reduceLT,Int.reduceEq,Int.reduceLE,hc,hrow,hll,hml,hyl,hby',hF,a1,a5,c1,c2,wk,k0,k1,k2,k3,k4,k5,k6,k8,t0,hcut,hcut2,hend,hend',hend2,hmm,hml1,hnil,hw,eAp,eDr,eAk,eDb,eDg,eDp,eDd,eCn,eDh,List.map_nil,eDc,eAt,eDm,hk0,hl1,q2,q3,q5,q6,q8,q9]
    rw [q7]
theorem v77 (l:List Cd) (by':List Int) (hl:l.length≤60) (hb:by'.length≤200) (hz:∀ z∈by',0≤z∧z≤255):
  ∃ m:List Cd,m.Perm l∧z5r (v5q std) (z0p fl l,([],(z0p fl l,(v3k by',(0,(l.length,((0:Int),())))))))=some (z0p fl m,(z0p fl l,())):=by
 have key:=y6h (b:=v5q std) l.length (fun (t:List Cd×List Cd) i=>(z0p fl t.1,(z0p fl t.2,(z0p fl l,(v3k by',(0,(t.1.length,((i:Int),()))))))))
  (fun t i=>(t.1++t.2).Perm l∧t.1.length+i=l.length)
  (fun r=>∃ m:List Cd,m.Perm l∧r=(z0p fl m,(z0p fl l,())))
  (fun t i hi hI=> .inl (by
   obtain ⟨L,M⟩:=t
   obtain ⟨hp,hn⟩:=hI
   simp only at hp hn⊢
   have hlen:=hp.length_eq
   rw [eBu] at hlen
   have fin:∀ k:Nat,k<L.length→((by'.length=0∧k=0)∨∃ z,by'.length≠0∧by'[i % by'.length]?=some z∧std.ar .rem .i64 z (L.length:Int)=(k:Int))→
     ∃ t':List Cd×List Cd,v5q std (z0p fl L,(z0p fl M,(z0p fl l,(v3k by',(0,(L.length,((i:Int),())))))))=some (.inl (z0p fl t'.1,(z0p fl t'.2,(z0p fl l,(v3k by',(0,(t'.1.length,(((i+1:Nat):Int),()))))))))∧(t'.1++t'.2).Perm l∧t'.1.length+(i+1)=l.length:=by
    intro k hkl hk
    obtain ⟨c,hc⟩:=z1v hkl
    have hll:(L.take k++L.drop (k+1)).length=L.length - 1:=by simp; omega
    refine ⟨(L.take k++L.drop (k+1),M++[c]),?_,?_,by simp only [hll]; omega⟩
    ·simp only [hll]
     exact v76 l L M by' i k (by omega) (by omega) (by omega) hb hz hc hk
    ·refine List.Perm.trans ?_ hp
     have hdk:L.drop k=c::L.drop (k+1):=v43 hc
     have e:L=L.take k++c::L.drop (k+1):=by rw [←hdk,List.take_append_drop]
     conv=>rhs; rw [e]
     simp only [eCg]
     refine List.Perm.append_left _ ?_
     rw [List.cons_append]
     have:(L.drop (k+1)++(M++[c]))=(L.drop (k+1)++M)++[c]:=by simp
     rw [this]
     exact List.perm_append_singleton c _
   by_cases hb0:by'.length=0
   ·exact fin 0 (by omega) (.inl ⟨hb0,rfl⟩)
   ·obtain ⟨z,hzk⟩:=z1v (show i % by'.length<by'.length from eCr _ (by omega))
    obtain ⟨z0,z1⟩:=hz z (eAu hzk)
    obtain ⟨zn,rfl⟩:=Int.eq_ofNat_of_zero_le z0
    refine fin (zn % L.length) (eCr _ (by omega)) (.inr ⟨_,hb0,hzk,?_⟩)
    rw [v21,Int.tmod_eq_emod_of_nonneg (by omega)]; omega))
  (fun t hI=>by
   obtain ⟨L,M⟩:=t
   obtain ⟨hp,hn⟩:=hI
   simp only at hp hn⊢
   have h0:L=[]:=List.eq_nil_of_length_eq_zero (by omega)
   subst h0
   refine ⟨(z0p fl M,(z0p fl l,())),?_,M,by simpa using hp,rfl⟩
   have hno:¬ (0:Int)<((0:Nat):Int):=by omega
   simp only [v5q,z2d,z2e,eDc,hno,if_false]) (l,[]) 0 (eAv _) ⟨by simp,by simp⟩
 obtain ⟨r,h1,m,hm,rfl⟩:=key
 exact ⟨m,hm,h1⟩
theorem v34 (l:List Cd):(z20 l).length=mxs (v26 l) l:=by simp [z20]
theorem v6p (l:List Cd) (F:Cd→Nat) (m:Nat):(v24 l F m).length≤l.length:=by
 unfold v24
 rw [(srt_perm _).length_eq,eBt]
 exact List.length_filter_le _ _
theorem v5z {l m:List Cd} (h:z4y l=0) (hp:m.Perm l):z4y m=0:=by
 obtain ⟨h1,h2,h3⟩:=z75.1 h
 exact z75.2 ⟨by rw [hp.length_eq]; exact h1,fun c hc=>h2 c (hp.mem_iff.1 hc),(hp.map _).nodup_iff.2 h3⟩
theorem u1i (l:List Cd) (by':List Int) (hz:∀ z∈by',0≤z∧z≤255):G9 std (z0p fl l,(v3k by',()))=some (true,()):=by
 have g41:=v9t (fl:=fl) l
 unfold G9
 by_cases hf:v8k l=true
 ·have h:=v6v.1 hf
  rw [hf] at g41
  obtain ⟨h1,h2,h3,h4,h5⟩:=z25 h
  have hyl:(v3k by').length=by'.length:=v6w by'
  by_cases hb:200<by'.length
  ·have hb':(200:Int)<(by'.length:Int):=by omega
   simp only [z2d,z2e,z4b,Int.reduceLT,Int.reduceEq,Int.reduceLE,g41,hyl,hb',G16]
  ·have hb':¬ (200:Int)<(by'.length:Int):=by omega
   have hle:(z0p fl l).length=l.length:=z2i l
   have tS:∀ E:List (List D),E.take E.length=E:=fun E=>eDi
   have z0:((0:Nat):Int)=0:=rfl
   have n24:¬ (24:Int)=0:=by omega
   have b1:std.bEq true true=true:=rfl
   have b2:std.bEq false false=true:=rfl
   have rest:∀ m:List Cd,m.Perm l→∃ e:Bool,G35 std (z0p fl l,(z0p fl m,()))=some ((if e=true then 0 else 24),())∧G27 std (z0p fl l,())=some (z41 tru (z20 l),(0,()))∧G27 std (z0p fl m,())=some (z41 tru (z20 m),(0,()))∧
     G29 std (z0p fl l,())=some (z0p (fun _=>false) (z21 l),(0,()))∧G29 std (z0p fl m,())=some (z0p (fun _=>false) (z21 m),(0,()))∧
     G33 std (z41 tru (z20 l),(z41 tru (z20 m),()))=some (e,())∧G34 std (z0p (fun _=>false) (z21 l),(z0p (fun _=>false) (z21 m),()))=some (e,()):=by
    intro m hm
    have dm:=v5z h hm
    obtain ⟨m1,m2,m3,m4,m5⟩:=z25 dm
    have g35:=v9u (fl:=fl) (fl':=fl) l m (v3d h) (v3d dm)
    have hs:v4q l m=if z21 l=z21 m then 0 else 24:=by
     unfold v4q
     rw [if_neg (not_not_intro (v3m.2 ⟨h,dm⟩)),if_neg (not_not_intro hm.symm)]
    have r1:=v7o (fl:=fl) l (v3d h)
    have r2:=v7o (fl:=fl) m (v3d dm)
    have l1:=v7n (fl:=fl) l (v3d h)
    have l2:=v7n (fl:=fl) m (v3d dm)
    rw [h,if_pos rfl] at r1 l1
    rw [dm,if_pos rfl] at r2 l2
    have hlm:∀ c∈z21 l,c∈l:=fun c hc=>(z28 h3).1.mem_iff.2 hc
    have hll:(z21 l).length≤60:=by rw [←(z28 h3).1.length_eq]; exact h1
    have g34:=v9v (fl:=fun _=>false) (fl':=fun _=>false) (z21 l) (z21 m) (by omega) (fun c hc=>by have:=v3d h c (hlm c hc); omega)
    have hrl:(z20 l).length≤60:=by
     rw [v34]
     exact eBf (v3o h3 (v3v l) l [] (by simp)) h1
    have g33:=v9w (fl:=tru) (fl':=tru) (z20 l) (z20 m) (by omega) (fun r hr=>by
     obtain ⟨k,_,rfl⟩:=eBb.1 hr
     have:=v6p l (v26 l) (k+1)
     omega)
    have hle:=v31 (z24 h2) h3 hm.symm
    have hre:(z20 l=z20 m)↔z21 l=z21 m:=⟨fun e=>hle.2 (v30 (z24 h2) h3 hm.symm e),fun e=>v5f (hle.1 e)⟩
    refine ⟨decide (z21 l=z21 m),?_,r1,r2,l1,l2,?_,g34⟩
    ·rw [g35,hs]; simp only [decide_eq_true_eq]
    ·rw [g33,decide_eq_decide.2 hre]
   by_cases hl0:l.length=0
   ·have hl:l=[]:=List.eq_nil_of_length_eq_zero hl0
    subst hl
    obtain ⟨e,g35,r1,r2,l1,l2,g33,g34⟩:=rest [] (.refl _)
    have e0:z0p fl ([]:List Cd)=[]:=rfl
    have hit:z5r (v9z std) ([],([],([],(v3k by',(0,(0,((0:Int),())))))))=some ([],([],())):=by
     have key:=y6h (b:=v9z std) 0 (fun (_:Unit) i=>([],([],([],(v3k by',(0,(0,((i:Int),())))))))) (fun _ _=>True) (fun r=>r=([],([],()))) (fun _ i hi=>by omega)
      (fun _ _=>⟨([],([],())),by
       have hno:¬ (0:Int)<((0:Nat):Int):=by omega
       simp only [v9z,z2d,z2e,hno,if_false],rfl⟩) () 0 (eAk _) trivial
     obtain ⟨r,k1,rfl⟩:=key
     exact k1
    rw [e0] at g35 r1 r2 l1 l2 g41
    cases e with
    |true=>
     simp only [if_true] at g35
     simp only [z2d,z2e,z4b,Int.reduceLT,Int.reduceEq,Int.reduceLE,e0,g41,hyl,hb',G16,hit,g35,r1,r2,l1,l2,g33,g34,b1,b2,tS,z0,eAp,eAk,eDb,eDc,List.take_nil,List.drop_nil,eCn,eDd,eDn,eAi,if_false,if_true]
     done
    |false=>
     simp only [eAi,if_false] at g35
     simp only [z2d,z2e,z4b,Int.reduceLT,Int.reduceEq,Int.reduceLE,e0,g41,hyl,hb',G16,hit,g35,r1,r2,l1,l2,g33,g34,b1,b2,tS,z0,n24,eAp,eAk,eDb,eDc,List.take_nil,List.drop_nil,eCn,eDd,eDn,eAi,if_false,if_true]
     done
   ·have hl0':¬ l.length≤0:=by omega
    have hl1:1≤l.length:=by omega
    have hl2:l.length≤1000000:=by omega
    obtain ⟨m,hm,it⟩:=v77 (fl:=fl) l by' h1 (by omega) hz
    obtain ⟨e,g35,r1,r2,l1,l2,g33,g34⟩:=rest m hm
    cases e with
    |true=>
     simp only [if_true] at g35
     simp only [z2d,z2e,z4b,Int.reduceLT,Int.reduceEq,Int.reduceLE,hle,g41,hyl,hb',hl0',hl1,hl2,G16,it,g35,r1,r2,l1,l2,g33,g34,b1,b2,tS,z0,eAp,eAk,eDb,eDc,List.take_nil,List.drop_nil,eCn,eDd,eDn,eAi,if_false,if_true]
     done
    |false=>
     simp only [eAi,if_false] at g35
     simp only [z2d,z2e,z4b,Int.reduceLT,Int.reduceEq,Int.reduceLE,hle,g41,hyl,hb',hl0',hl1,hl2,G16,it,g35,r1,r2,l1,l2,g33,g34,b1,b2,tS,z0,n24,eAp,eAk,eDb,eDc,List.take_nil,List.drop_nil,eCn,eDd,eDn,eAi,if_false,if_true]
     done
 ·have hf:v8k l=false:=by simpa using hf
  rw [hf] at g41
  simp only [z2d,z2e,z4b,Int.reduceLT,Int.reduceEq,Int.reduceLE,g41,G16]
end Go.Am
end
