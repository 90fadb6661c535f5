/- Texts of this claim. -/
import Derived.Test.YtejcgpekgbiooaaGreatDoorT14
import Derived.Test.YtejcgpekgbiooaaGreatDoorProg
import Derived.KernelRfl
set_option linter.unusedVariables false
set_option linter.unusedSimpArgs false
set_option linter.unusedSectionVars false
set_option maxRecDepth 100000
set_option maxHeartbeats 0
open List renaming mem_cons_of_mem → eCm,mem_cons_self → eBq,mem_cons → eAz,length_cons → eBi,nodup_cons → eDl,ext_getElem? → eBd,getElem?_map → eAg,take_length → eDf,drop_zero → eDd,getElem?_eq_some_iff → eAd,drop_drop → eCw,mem_map_of_mem → eFc,mem_map → eBb,any_eq_true → eCz,idxOf_lt_length_of_mem → eDh,length_map → eBt,getElem?_eq_getElem → eAa,getElem_mem → eCp,getElem_idxOf → eDi,mem_of_getElem? → eAu,getD_eq_getElem?_getD → eCi,getElem?_replicate → eCf,getElem?_set_ne → eFa,foldl_cons → eDn,mem_of_getLast? → eDx,any_eq_false → eDo,mem_append_left → eDy,mem_append → eBj,mem_singleton → eBe,nodup_append → eDv,mem_iff_getElem → eDb,mem_filter → eDa,append_assoc → eCg,length_eq_zero_iff → eBn,append_nil → eCn,take_add_one → eDw,find?_eq_none → eDj,mem_range → eBo,find?_some → eDm,mem_of_find?_eq_some → eDe,length_take → eBv,length_append → eBu,getElem?_eq_none → eCt,take_of_length_le → eDg,take_succ_cons → eFd,length_drop → eCx,getElem?_drop → eBp,filter_sublist → eDq,getElem?_cons_zero → eCo,getElem?_cons_succ → eCe,all_eq_true → eAr,getElem?_append_right → eCv
open Nat renaming pow_lt_pow_right → eDz,lt_of_lt_of_le → eAn,mod_eq_of_lt → eCy,zero_add → eAp,le_refl → eAk,add_zero → eAt,zero_le → eAv,lt_or_ge → eBw,le_trans → eBf
open Int renaming tmod_eq_emod_of_nonneg → eDu,toNat_natCast → eCh,toNat_zero → eDr,le_refl → eDt
open Option renaming map_some → eBh,getD_some → eBk
open Bool renaming and_self → eDc,and_true → eCc,eq_iff_iff → eCu,false_eq_true → eAi,and_eq_true → eAb,not_eq_true' → eBy,not_true → eDp,not_false → eCq,false_and → eDs,or_eq_true → eAq
open Go.Proofs.Tryz renaming prog → PG
section
namespace Go.Am
open Go Go.RowKit Go.Proofs D12
theorem u2s {n:Int} (h:(Lit.int IntKind.u8 n).wf=true):0≤n∧n≤255:=by
 simp only [Lit.wf,IntKind.min,IntKind.max,IntKind.signed,IntKind.bits] at h
 simp at h
 omega
theorem u2r {x:D} (h:DK (.int .u8) x):∃ n:Int,x= .int .u8 n∧0≤n∧n≤255:=by
 obtain ⟨n,rfl,hn⟩:=x3v h
 exact ⟨n,rfl,u2s hn⟩
theorem v9a {x:D} (h:DK (.list [.int .u8]) x):∃ l:List Int,x= .list false 1 (v7o l)∧(∀ z∈l,0≤z∧z≤255)∧l.length≤maxLen:=by
 match x,h with
 | .list f z es,h=>
  obtain ⟨rfl,rfl,hl,hr⟩:=h
  rw [z9g] at hr
  have:∃ l:List Int,es=v7o l∧∀ z∈l,0≤z∧z≤255:=by
   clear hl
   induction es with
   |nil=>exact ⟨[],rfl,fun z h=>by cases h⟩
   |cons r es ih=>
    obtain ⟨l,rfl,hw⟩:=ih fun r hr'=>hr r (eCm _ hr')
    have h0:=hr r (eBq ..)
    match r,h0 with
    |[y],h0=>
     obtain ⟨a,rfl,ha⟩:=u2r h0.1
     refine ⟨a::l,rfl,fun z hz=>?_⟩
     rcases eAz.1 hz with rfl|hz
     ·exact ha
     ·exact hw z hz
  obtain ⟨l,rfl,hw⟩:=this
  exact ⟨l,rfl,hw,by simpa [v7o] using hl⟩
end Go.Am
end
noncomputable section
namespace Go.Am
def F19:Prim→Tup (w71).scs→Option (STup (scss (w71).outs)):=
 fun p x=>G19 p x
def u1n:Ctr:=
 ⟨78,[.list 4, .list 4],[],[(.ret,⟨[(0, .int .i64)],[],1⟩)]⟩
def la78:List LA:=
 []
def ja78:List JA:=
 []
def u7i:List CF:=
 [⟨w71,F19⟩]
def an78:Anns:=
 ⟨u7i,ja78,[]⟩
def G78:(p:Prim)→W42w→Option (W1w):=
 fun p x=>
 opt.bnd (W1w) _ (G19 p (x.1,())) fun a=>
 opt.ask _ (p.cmp .neq a.1 (0:Int)) (
 opt.ret _ a) (
 opt.bnd (W1w) _ (G19 p x.2) fun b=>
 opt.ret _ b)
theorem u9e:CtrOk PG u1n (G78 std):=okF vE (a:=an78) (l:=la78) (gC v1x (gN))
def v98:Ctr:=
 ⟨116,[.list 1, .int .i64],[],[(.ret,⟨[(0, .int .i64)],[],1⟩)]⟩
def u6h:List LA:=
 [⟨116,[fF,tT,fF,tT],0,⟨⟨[(0, .list 1),(1, .int .i64),(7, .int .i64),(8, .int .i64)],[],19⟩,[(AX.ret,⟨[(4, .int .i64)],[],19⟩),((AX.exit 0),⟨[],[],19⟩)]⟩⟩]
def u6s:List JA:=
 []
def u3g:List CF:=
 []
def u8q:Anns:=
 ⟨u3g,u6s,[]⟩
def v36 (p:Prim):(LD×W60w)→Option ((LD×W60w)⊕(W1w⊕Unit)):=
 fun a=>let A:=a.2.2.2.1; opt.run _ (
 opt.ask _ (p.cmp .lss A a.2.2.1) (
 opt.need _ (p.rowOk a.1 (p.nat A) [ci])<|
 opt.need _ (p.cmp .geq A (0:Int))<|
 opt.ask _ (p.cmp .eql a.2.1 (p.rdI a.1 (p.nat A) 0)) (
 opt.ret _ (Sum.inr (Sum.inl a.2.2.2))) (
 opt.ret _ (Sum.inl (a.1,(a.2.1,(a.2.2.1,((p.ar .add .i64 A (1:Int)),()))))))) (
 opt.ret _ (Sum.inr (Sum.inr ()))))
def u5l:(p:Prim)→W18w→Option (W1w):=
 fun p x=>
 opt.alt (W1w) (Unit) _ (
 z5q (v36 p) (x.1,(x.2.1,((p.ofNat (p.len x.1)),((0:Int),()))))) (fun a=>
 opt.ret _ a) (fun b=>
 opt.bnd (Unit) _ (some b) fun c=>
 opt.ret _ ((-1:Int),()))
theorem u5w:CtrOk PG v98 (u5l std):=okF vE (a:=u8q) (l:=u6h) (gN)
def u3u:Ctr:=
 ⟨71,[.list 1, .int .i64],[],[(.ret,⟨[(0, .bool)],[],1⟩)]⟩
def la71:List LA:=
 []
def ja71:List JA:=
 []
def u7o:List CF:=
 [⟨v98,u5l⟩]
def an71:Anns:=
 ⟨u7o,ja71,[]⟩
def G71:(p:Prim)→W18w→Option (W4w):=
 fun p x=>
 opt.bnd (W1w) _ (u5l p x) fun a=>
 opt.ret _ ((p.cmp .geq a.1 (0:Int)),())
theorem ok71:CtrOk PG u3u (G71 std):=okF vE (a:=an71) (l:=la71) (gC u5w (gN))
def v95:Ctr:=
 ⟨130,[.int .i64, .bptr 0 0],[q0m],[(.ret,⟨[(0, .bool)],[q0m],1⟩)]⟩
def u6e:List LA:=
 []
def u6p:List JA:=
 []
def u3d:List CF:=
 [⟨u3u,G71⟩]
def u8n:Anns:=
 ⟨u3d,u6p,[]⟩
def u5c:(p:Prim)→W51w→Option (W47w):=
 fun p x=>
 opt.bnd (W4w) _ (G71 p (x.2.2.1,x.2.2.2.2)) fun a=>
 opt.ret _ (x.1,(x.2.1,(x.2.2.1,(x.2.2.2.1,a))))
theorem u5t:CtrOk PG v95 (u5c std):=okF vE (a:=u8n) (l:=u6e) (gC ok71 (gN))
def v50:Ctr:=
 ⟨133,[.list 1, .clo 130 [] [.bptr 0 0]],[q0m],[(.ret,⟨[(0, .int .i64)],[q0m],1⟩)]⟩
def u1d:List LA:=
 [⟨133,[fF,tT,fF,tT],1,⟨⟨[(0, .list 1),(1, .clo 130 [] [.bptr 0 0]),(7, .int .i64),(8, .int .i64)],[q0m],19⟩,[(AX.ret,⟨[(4, .int .i64)],[q0m],19⟩),((AX.exit 0),⟨[],[q0m],19⟩)]⟩⟩]
def u1h:List JA:=
 []
def v8y:List CF:=
 [⟨v95,u5c⟩]
def u1u:Anns:=
 ⟨v8y,u1h,[]⟩
def v2t (p:Prim):(Int×(Int×(LD×W36w)))→Option ((Int×(Int×(LD×W36w)))⊕(W51w⊕W26w)):=
 fun a=>let A:=a.2.2.2.2.2.2.1; opt.run _ (
 opt.ask _ (p.cmp .lss A a.2.2.2.2.2.1) (
 opt.need _ (p.rowOk a.2.2.2.2.1 (p.nat A) [ci])<|
 opt.need _ (p.cmp .geq A (0:Int))<|
 opt.bnd (W47w) _ (u5c p (a.1,(a.2.1,(a.2.2.1,(a.2.2.2.1,((p.rdI a.2.2.2.2.1 (p.nat A) 0),())))))) fun b=>
 opt.ask _ b.2.2.2.2.1 (
 opt.ret _ (Sum.inr (Sum.inl (b.1,(b.2.1,(b.2.2.1,(b.2.2.2.1,a.2.2.2.2.2.2))))))) (
 opt.ret _ (Sum.inl (b.1,(b.2.1,(b.2.2.1,(b.2.2.2.1,(a.2.2.2.2.1,(a.2.2.2.2.2.1,((p.ar .add .i64 A (1:Int)),())))))))))) (
 opt.ret _ (Sum.inr (Sum.inr (a.1,(a.2.1,(a.2.2.1,(a.2.2.2.1,()))))))))
def v6d:(p:Prim)→(Int×(Int×(LD×(Int×W14w))))→Option (W51w):=
 fun p x=>
 opt.alt (W51w) (W26w) _ (
 z5q (v2t p) (x.1,(x.2.1,(x.2.2.1,(x.2.2.2.1,(x.2.2.2.2.1,((p.ofNat (p.len x.2.2.2.2.1)),((0:Int),())))))))) (fun a=>
 opt.ret _ a) (fun b=>
 opt.bnd (W26w) _ (some b) fun c=>
 opt.ret _ (c.1,(c.2.1,(c.2.2.1,(c.2.2.2.1,((-1:Int),()))))))
theorem u0v:CtrOk PG v50 (v6d std):=okF vE (a:=u1u) (l:=u1d) (gC u5t (gN))
def v51:Ctr:=
 ⟨106,[.list 1, .clo 130 [] [.bptr 0 0]],[q0m],[(.ret,⟨[(0, .bool)],[q0m],1⟩)]⟩
def u1e:List LA:=
 []
def u1i:List JA:=
 []
def v8z:List CF:=
 [⟨v50,v6d⟩]
def u1v:Anns:=
 ⟨v8z,u1i,[]⟩
def v6e:(p:Prim)→(Int×(Int×(LD×(Int×W14w))))→Option (W47w):=
 fun p x=>
 opt.bnd (W51w) _ (v6d p x) fun a=>
 opt.ret _ (a.1,(a.2.1,(a.2.2.1,(a.2.2.2.1,((p.cmp .geq a.2.2.2.2.1 (0:Int)),())))))
theorem u0w:CtrOk PG v51 (v6e std):=okF vE (a:=u1v) (l:=u1e) (gC u0v (gN))
def u1l:Ctr:=
 ⟨92,[.agg [.int .i64, .int .i64, .list 1, .int .i64], .agg [.int .i64, .int .i64, .list 1, .int .i64]],[],[(.ret,⟨[(0, .bool)],[],1⟩)]⟩
def la92:List LA:=
 []
def ja92:List JA:=
 []
def u7b:List CF:=
 [⟨v51,v6e⟩]
def an92:Anns:=
 ⟨u7b,ja92,[]⟩
def G92:(p:Prim)→W44w→Option (W4w):=
 fun p x=>
 opt.bnd (W47w) _ (v6e p (x.2.2.2.2.1,(x.2.2.2.2.2.1,(x.2.2.2.2.2.2.1,(x.2.2.2.2.2.2.2.1,(x.2.2.1,())))))) fun a=>
 opt.ret _ a.2.2.2.2
theorem u9c:CtrOk PG u1l (G92 std):=okF vE (a:=an92) (l:=la92) (gC u0w (gN))
end Go.Am
end
noncomputable section
namespace Go.Am
def v97:Ctr:=
 ⟨117,[.list 1],[],[(.ret,⟨[(0, .list 1)],[],1⟩)]⟩
def u6g:List LA:=
 []
def u6r:List JA:=
 []
def u3f:List CF:=
 []
def u8p:Anns:=
 ⟨u3f,u6r,[]⟩
def u5d:(p:Prim)→W14w→Option (W14w):=
 fun p x=>let A:=p.add 0 (p.len x.1);let B:=p.leN (p.add 0 0) (p.len []);let C:=p.splice [] (p.add 0 0) x.1;let E:=p.app (p.cut [] 0 0) x.1;
 opt.need _ (p.leN 1 (p.len x.1))<|
 opt.ask _ (p.leN A 0) (
 opt.need _ (p.and Bool.true (p.and B B))<|
 opt.need _ (p.leN (p.add 0 A) (p.len C))<|
 opt.ret _ ((p.cut C 0 A),())) (
 opt.need _ (p.and Bool.true (p.and B (p.and (p.leN 1 (p.len x.1)) (p.leN A 1000000))))<|
 opt.need _ (p.leN (p.add 0 A) (p.len E))<|
 opt.ret _ ((p.cut E 0 A),()))
theorem u5v:CtrOk PG v97 (u5d std):=okF vE (a:=u8p) (l:=u6g) (gN)
end Go.Am
end
noncomputable section
namespace Go.Am
def v85:Ctr:=
 ⟨72,[.agg [.int .u64, .int .u64], .int .i64],[],[(.ret,⟨[(0, .agg [.int .u64, .int .u64])],[],1⟩)]⟩
def la72:List LA:=
 []
def ja72:List JA:=
 []
def u7n:List CF:=
 []
def an72:Anns:=
 ⟨u7n,ja72,[]⟩
def G72:(p:Prim)→W60w→Option (W0w):=
 fun p x=>let G:=(1:Int);let E:=(0:Int);let A:=bif (p.cmp .geq G E) then (p.cmp .lss G (p.ofNat 2)) else Bool.false;let B:=bif (p.cmp .geq E E) then (p.cmp .lss E (p.ofNat 2)) else Bool.false;let F:=p.ar .rem .i64 x.2.2.1 (64:Int);let C:=p.ar .shl .u64 G F;let H:=p.cmp .neq (64:Int) E;let I:=p.ar .quo .i64 x.2.2.1 (64:Int);let J:=p.ar .or .u64 x.2.1 C;
 opt.need _ H<|
 opt.ask _ (p.cmp .eql I E) (
 opt.need _ B<|
 opt.need _ H<|
 opt.need _ (p.cmp .geq F E)<|
 opt.ask _ (p.cmp .eql E E) (
 opt.need _ B<|
 opt.ret _ ((p.ar .or .u64 x.1 C),(x.2.1,()))) (
 opt.need _ (p.cmp .eql E G)<|
 opt.need _ A<|
 opt.ret _ (x.1,((p.ar .or .u64 x.1 C),())))) (
 opt.need _ (p.cmp .eql I G)<|
 opt.need _ A<|
 opt.need _ H<|
 opt.need _ (p.cmp .geq F E)<|
 opt.ask _ (p.cmp .eql G E) (
 opt.need _ B<|
 opt.ret _ (J,(x.2.1,()))) (
 opt.need _ (p.cmp .eql G G)<|
 opt.need _ A<|
 opt.ret _ (x.1,(J,()))))
theorem u5r:CtrOk PG v85 (G72 std):=okF vE (a:=an72) (l:=la72) (gN)
def u3t:Ctr:=
 ⟨73,[.agg [.int .u64, .int .u64], .agg [.int .u64, .int .u64]],[],[(.ret,⟨[(0, .agg [.int .u64, .int .u64])],[],1⟩)]⟩
def la73:List LA:=
 [⟨73,[fF,tT,fF,tT],0,⟨⟨[(2, .bptr 0 0),(3, .bptr 1 0),(4, .bptr 2 0),(6, .int .i64)],q24m,19⟩,[((AX.exit 0),⟨[(2, .bptr 0 0),(4, .bptr 1 0)],[q10m,q10m],19⟩)]⟩⟩]
def ja73:List JA:=
 [⟨73,[fF,tT,tT,fF,fF,tT,fF,tT],0,[(AX.normal,⟨[(2, .bptr 0 0),(3, .bptr 1 0),(4, .bptr 2 0),(6, .int .i64)],q24m,19⟩)]⟩]
def u7m:List CF:=
 []
def an73:Anns:=
 ⟨u7m,ja73,[]⟩
def v9b (p:Prim):W22w→Option (W22w⊕W10w):=
 fun a=>let E:=(1:Int);let C:=(0:Int);let A:=bif (p.cmp .geq E C) then (p.cmp .lss E (p.ofNat 2)) else Bool.false;let B:=bif (p.cmp .geq C C) then (p.cmp .lss C (p.ofNat 2)) else Bool.false;let F:=a.2.2.2.2.2.2.1;let G:=p.ar .or .u64 a.2.1 a.2.2.2.1;let H:=p.cmp .eql F E;let I:=p.cmp .eql F C;let J:=p.ar .or .u64 a.2.1 a.2.2.1;let K:=p.ar .or .u64 a.1 a.2.2.2.1;let L:=p.ar .or .u64 a.1 a.2.2.1; opt.run _ (
 opt.ask _ (p.cmp .lss F (2:Int)) (
 opt.bnd (W22w) _ (
 opt.run (W22w) (
 opt.ask _ I (
 opt.need _ B<|
 opt.ask _ I (
 opt.need _ B<|
 opt.ask _ (p.cmp .eql C C) (
 opt.need _ B<|
 opt.ret _ (L,a.2)) (
 opt.need _ (p.cmp .eql C E)<|
 opt.need _ A<|
 opt.ret _ (a.1,(L,a.2.2)))) (
 opt.need _ H<|
 opt.need _ A<|
 opt.ask _ (p.cmp .eql C C) (
 opt.need _ B<|
 opt.ret _ (K,a.2)) (
 opt.need _ (p.cmp .eql C E)<|
 opt.need _ A<|
 opt.ret _ (a.1,(K,a.2.2))))) (
 opt.need _ H<|
 opt.need _ A<|
 opt.ask _ I (
 opt.need _ B<|
 opt.ask _ (p.cmp .eql E C) (
 opt.need _ B<|
 opt.ret _ (J,a.2)) (
 opt.need _ (p.cmp .eql E E)<|
 opt.need _ A<|
 opt.ret _ (a.1,(J,a.2.2)))) (
 opt.need _ H<|
 opt.need _ A<|
 opt.ask _ (p.cmp .eql E C) (
 opt.need _ B<|
 opt.ret _ (G,a.2)) (
 opt.need _ (p.cmp .eql E E)<|
 opt.need _ A<|
 opt.ret _ (a.1,(G,a.2.2))))))) fun b=>
 opt.ret _ (Sum.inl (b.1,(b.2.1,(b.2.2.1,(b.2.2.2.1,(b.2.2.2.2.1,(b.2.2.2.2.2.1,((p.ar .add .i64 b.2.2.2.2.2.2.1 E),()))))))))) (
 opt.ret _ (Sum.inr (a.1,(a.2.1,(a.2.2.2.2.1,(a.2.2.2.2.2.1,())))))))
def G73:(p:Prim)→W10w→Option (W0w):=
 fun p x=>
 opt.bnd (W10w) _ (
 z5q (v9b p) (x.1,(x.2.1,(x.2.2.1,(x.2.2.2.1,((0:Int),((0:Int),((0:Int),())))))))) fun a=>
 opt.ret _ (a.1,(a.2.1,()))
theorem ok73:CtrOk PG u3t (G73 std):=okF vE (a:=an73) (l:=la73) (gN)
def v5d:Ctr:=
 ⟨74,[.agg [.int .u64, .int .u64], .int .i64],[],[(.ret,⟨[(0, .bool)],[],1⟩)]⟩
def la74:List LA:=
 []
def ja74:List JA:=
 [⟨74,[fF,tT],0,[(AX.normal,⟨[(4, .bool)],[],14⟩)]⟩]
def u7l:List CF:=
 []
def an74:Anns:=
 ⟨u7l,ja74,[]⟩
def G74:(p:Prim)→W60w→Option (W4w):=
 fun p x=>let A:=p.ar .rem .i64 x.2.2.1 (64:Int);let B:=(0:Int);let C:=p.cmp .neq (64:Int) B;let E:=(1:Int);let F:=p.ar .quo .i64 x.2.2.1 (64:Int);
 opt.bnd (W4w) _ (
 opt.run (W4w) (
 opt.need _ C<|
 opt.ask _ (p.cmp .eql F B) (
 opt.need _ (bif (p.cmp .geq B B) then (p.cmp .lss B (p.ofNat 2)) else Bool.false)<|
 opt.need _ C<|
 opt.need _ (p.cmp .geq A B)<|
 opt.ret _ ((p.cmp .eql (p.ar .and .u64 (p.ar .shr .u64 x.1 A) E) E),())) (
 opt.need _ (p.cmp .eql F E)<|
 opt.need _ (bif (p.cmp .geq E B) then (p.cmp .lss E (p.ofNat 2)) else Bool.false)<|
 opt.need _ C<|
 opt.need _ (p.cmp .geq A B)<|
 opt.ret _ ((p.cmp .eql (p.ar .and .u64 (p.ar .shr .u64 x.2.1 A) E) E),())))) fun a=>
 opt.ret _ a
theorem u2i:CtrOk PG v5d (G74 std):=okF vE (a:=an74) (l:=la74) (gN)
def v7t:Ctr:=
 ⟨132,[.agg [.int .u64, .int .u64], .agg [.int .u64, .int .u64]],[],[(.ret,⟨[(0, .agg [.int .u64, .int .u64])],[],1⟩)]⟩
def u6d:List LA:=
 [⟨132,[fF,tT,fF,tT],0,⟨⟨[(2, .bptr 0 0),(3, .bptr 1 0),(4, .bptr 2 0),(6, .int .i64)],q24m,19⟩,[((AX.exit 0),⟨[(2, .bptr 0 0),(4, .bptr 1 0)],[q10m,q10m],19⟩)]⟩⟩]
def u6o:List JA:=
 [⟨132,[fF,tT,tT,fF,fF,tT,fF,tT],0,[(AX.normal,⟨[(2, .bptr 0 0),(3, .bptr 1 0),(4, .bptr 2 0),(6, .int .i64)],q24m,19⟩)]⟩]
def u3c:List CF:=
 []
def u8m:Anns:=
 ⟨u3c,u6o,[]⟩
def v54 (p:Prim):W22w→Option (W22w⊕W10w):=
 fun a=>let E:=(1:Int);let C:=(0:Int);let A:=bif (p.cmp .geq E C) then (p.cmp .lss E (p.ofNat 2)) else Bool.false;let B:=bif (p.cmp .geq C C) then (p.cmp .lss C (p.ofNat 2)) else Bool.false;let F:=a.2.2.2.2.2.2.1;let G:=p.ar .and .u64 a.2.1 a.2.2.2.1;let H:=p.cmp .eql F E;let I:=p.cmp .eql F C;let J:=p.ar .and .u64 a.2.1 a.2.2.1;let K:=p.ar .and .u64 a.1 a.2.2.2.1;let L:=p.ar .and .u64 a.1 a.2.2.1; opt.run _ (
 opt.ask _ (p.cmp .lss F (2:Int)) (
 opt.bnd (W22w) _ (
 opt.run (W22w) (
 opt.ask _ I (
 opt.need _ B<|
 opt.ask _ I (
 opt.need _ B<|
 opt.ask _ (p.cmp .eql C C) (
 opt.need _ B<|
 opt.ret _ (L,a.2)) (
 opt.need _ (p.cmp .eql C E)<|
 opt.need _ A<|
 opt.ret _ (a.1,(L,a.2.2)))) (
 opt.need _ H<|
 opt.need _ A<|
 opt.ask _ (p.cmp .eql C C) (
 opt.need _ B<|
 opt.ret _ (K,a.2)) (
 opt.need _ (p.cmp .eql C E)<|
 opt.need _ A<|
 opt.ret _ (a.1,(K,a.2.2))))) (
 opt.need _ H<|
 opt.need _ A<|
 opt.ask _ I (
 opt.need _ B<|
 opt.ask _ (p.cmp .eql E C) (
 opt.need _ B<|
 opt.ret _ (J,a.2)) (
 opt.need _ (p.cmp .eql E E)<|
 opt.need _ A<|
 opt.ret _ (a.1,(J,a.2.2)))) (
 opt.need _ H<|
 opt.need _ A<|
 opt.ask _ (p.cmp .eql E C) (
 opt.need _ B<|
 opt.ret _ (G,a.2)) (
 opt.need _ (p.cmp .eql E E)<|
 opt.need _ A<|
 opt.ret _ (a.1,(G,a.2.2))))))) fun b=>
 opt.ret _ (Sum.inl (b.1,(b.2.1,(b.2.2.1,(b.2.2.2.1,(b.2.2.2.2.1,(b.2.2.2.2.2.1,((p.ar .add .i64 b.2.2.2.2.2.2.1 E),()))))))))) (
 opt.ret _ (Sum.inr (a.1,(a.2.1,(a.2.2.2.2.1,(a.2.2.2.2.2.1,())))))))
def u2c:(p:Prim)→W10w→Option (W0w):=
 fun p x=>
 opt.bnd (W10w) _ (
 z5q (v54 p) (x.1,(x.2.1,(x.2.2.1,(x.2.2.2.1,((0:Int),((0:Int),((0:Int),())))))))) fun a=>
 opt.ret _ (a.1,(a.2.1,()))
theorem u2t:CtrOk PG v7t (u2c std):=okF vE (a:=u8m) (l:=u6d) (gN)
def u3s:Ctr:=
 ⟨75,[.agg [.int .i64, .int .i64, .list 1, .int .i64]],[],[(.ret,⟨[(0, .agg [.int .i64, .int .i64, .list 1, .int .i64])],[],1⟩)]⟩
def la75:List LA:=
 []
def ja75:List JA:=
 []
def u7k:List CF:=
 [⟨v97,u5d⟩]
def an75:Anns:=
 ⟨u7k,ja75,[]⟩
def G75:(p:Prim)→W26w→Option (W26w):=
 fun p x=>
 opt.bnd (W14w) _ (u5d p (x.2.2.1,())) fun a=>
 opt.ret _ (x.1,(x.2.1,(a.1,x.2.2.2)))
theorem ok75:CtrOk PG u3s (G75 std):=okF vE (a:=an75) (l:=la75) (gC u5v (gN))
end Go.Am
end
noncomputable section
namespace Go.Am
def v7r:Ctr:=
 ⟨66,[.list 1],[],[(.ret,⟨[(0, .bptr 0 0)],q23m,1⟩)]⟩
def la66:List LA:=
 [⟨66,[fF,tT,fF,tT,tT],0,⟨⟨[(0, .list 1),(3, .bptr 0 0),(23, .list 1),(24, .int .i64),(25, .int .i64)],[.box [.sl 2 4, .map 1, .nils], .map,q8m],146⟩,[((AX.exit 0),⟨[(0, .list 1),(3, .bptr 0 0)],q25m,146⟩)]⟩⟩,
 ⟨66,[fF,tT,tT,fF,fF,tT,tT,fF,fF,tT,fF,tT,tT],0,⟨⟨[(0, .list 1),(3, .bptr 0 0),(23, .list 1),(24, .int .i64),(25, .int .i64),(29, .list 4),(30, .int .i64),(31, .int .i64)],q25m,146⟩,[((AX.exit 2),⟨[(0, .list 1),(3, .bptr 0 0),(23, .list 1),(24, .int .i64),(25, .int .i64)],q25m,146⟩)]⟩⟩,
 ⟨66,[fF,tT,fF,tT,tT,tT,tT],0,⟨⟨[(3, .bptr 0 0),(90, .list 1),(91, .int .i64),(92, .int .i64)],q23m,146⟩,[((AX.exit 4),⟨[(3, .bptr 0 0)],q23m,146⟩)]⟩⟩,
 ⟨66,[fF,tT,tT,tT,fF,fF,tT,tT,fF,fF,tT,fF,tT,tT,tT,tT],0,⟨⟨[(3, .bptr 0 0),(12, .map 1),(90, .list 1),(91, .int .i64),(92, .int .i64),(97, .list 4),(98, .int .i64),(99, .int .i64)],q22m,146⟩,[((AX.exit 6),⟨[(3, .bptr 0 0),(90, .list 1),(91, .int .i64),(92, .int .i64)],q23m,146⟩)]⟩⟩,
 ⟨66,[fF,tT,tT,tT,fF,fF,tT,tT,fF,fF,tT,tT,tT,fF,fF,tT,tT,fF,fF,tT,fF,tT,tT,tT,tT],0,⟨⟨[(3, .bptr 0 0),(12, .map 1),(15, .int .i64),(90, .list 1),(91, .int .i64),(92, .int .i64),(97, .list 4),(98, .int .i64),(99, .int .i64),(111, .list 1),(112, .int .i64),(113, .int .i64)],q22m,146⟩,[((AX.exit 8),⟨[(3, .bptr 0 0),(12, .map 1),(90, .list 1),(91, .int .i64),(92, .int .i64),(97, .list 4),(98, .int .i64),(99, .int .i64)],q22m,146⟩)]⟩⟩]
def ja66:List JA:=
 [⟨66,[fF,tT,tT,fF,fF,tT,tT,tT,fF,fF,tT,tT,fF,fF,tT,fF,tT,tT,tT,tT],0,[(AX.normal,⟨[(3, .bptr 0 0),(12, .map 1),(90, .list 1),(91, .int .i64),(92, .int .i64),(97, .list 4),(98, .int .i64),(99, .int .i64)],q22m,146⟩)]⟩,
 ⟨66,[fF,tT,tT,fF,fF,tT,tT,tT,fF,fF,tT,tT,fF,fF,tT,tT,tT,fF,fF,tT,tT,fF,fF,tT,fF,tT,tT,tT,tT],0,[(AX.normal,⟨[(3, .bptr 0 0),(12, .map 1),(15, .int .i64),(90, .list 1),(91, .int .i64),(92, .int .i64),(97, .list 4),(98, .int .i64),(99, .int .i64),(111, .list 1),(112, .int .i64),(113, .int .i64)],q22m,146⟩)]⟩,
 ⟨66,[fF,tT,tT,fF,fF,tT,tT,fF,fF,tT,tT,fF,fF,tT,fF,tT,tT],0,[(AX.normal,⟨[(0, .list 1),(3, .bptr 0 0),(23, .list 1),(24, .int .i64),(25, .int .i64),(29, .list 4),(30, .int .i64),(31, .int .i64)],q25m,146⟩)]⟩,
 ⟨66,[tT,tT,tT,fF,fF,tT,tT,fF,fF,tT,tT,fF,fF,tT,tT,fF,fF,tT,fF,tT,tT],0,[(AX.normal,⟨[(0, .list 1),(3, .bptr 0 0),(23, .list 1),(24, .int .i64),(25, .int .i64),(29, .list 4),(30, .int .i64),(31, .int .i64)],q25m,146⟩)]⟩]
def u7r:List CF:=
 [⟨v85,G72⟩]
def an66:Anns:=
 ⟨u7r,ja66,[]⟩
def u8j (p:Prim):W5w→Option (W5w⊕W6w):=
 fun a=>let S:=a.2.2.2.2.2.2.2.2.2.2.2.2.2.1;let F:=a.2.2.2.2.2.2.2.2.2.2.2.2.2.2.2.1;let A:=D.int .i64 (p.rdI S (p.nat F) 0);let Q:=a.2.2.2.1;let E:=a.2.2.2.2.2.2.1;let M:=p.add 0 (p.nat E);let C:=p.len Q;let G:=p.mOk a.1 [SK.i] Bool.false A Bool.false [ci];let H:=p.mset a.1 (p.nat (p.ofNat (p.mpos a.1 [SK.i] Bool.false A))) A (D.int .i64 E);let I:=bif (p.cmp .geq E (0:Int)) then (p.cmp .lss E (p.ofNat C)) else Bool.false;let J:=p.rowOk Q M [(CK.int .u64),(CK.int .u64)];let K:=p.mhas a.1 [SK.i] Bool.false A;let O:=p.eqN C C;let P:=p.eqN 0 0;let T:=p.madd a.1 A (D.int .i64 E); opt.run _ (
 opt.ask _ (p.cmp .lss F a.2.2.2.2.2.2.2.2.2.2.2.2.2.2.1) (
 opt.bnd (W5w) _ (
 opt.run (W5w) (
 opt.need _ (p.rowOk S (p.nat F) [ci])<|
 opt.need _ (p.cmp .geq F (0:Int))<|
 opt.need _ G<|
 opt.ask _ K (
 opt.need _ I<|
 opt.need _ J<|
 opt.bnd (W0w) _ (G72 p ((p.rdI Q M 0),((p.rdI Q M 1),((p.mI a.1 [SK.i] Bool.false A 0),())))) fun b=>let B:=p.set Q M [(D.int .u64 b.1),(D.int .u64 b.2.1)];let L:=p.eqN C (p.len B);let R:=(a.2.1,(a.2.2.1,(B,a.2.2.2.2)));
 opt.need _ I<|
 opt.need _ J<|
 opt.need _ G<|
 opt.ask _ K (
 opt.need _ P<|
 opt.need _ L<|
 opt.need _ L<|
 opt.ret _ (H,R)) (
 opt.need _ P<|
 opt.need _ L<|
 opt.need _ L<|
 opt.ret _ (T,R))) (
 opt.need _ G<|
 opt.ask _ K (
 opt.need _ P<|
 opt.need _ O<|
 opt.need _ O<|
 opt.ret _ (H,a.2)) (
 opt.need _ P<|
 opt.need _ O<|
 opt.need _ O<|
 opt.ret _ (T,a.2))))) fun c=>let N:=p.len c.2.2.2.1;
 opt.need _ P<|
 opt.need _ (p.eqN N N)<|
 opt.need _ (p.eqN N N)<|
 opt.ret _ (Sum.inl (c.1,(c.2.1,(c.2.2.1,(c.2.2.2.1,(c.2.2.2.2.1,(c.2.2.2.2.2.1,(c.2.2.2.2.2.2.1,(c.2.2.2.2.2.2.2.1,(c.2.2.2.2.2.2.2.2.1,(c.2.2.2.2.2.2.2.2.2.1,(c.2.2.2.2.2.2.2.2.2.2.1,(c.2.2.2.2.2.2.2.2.2.2.2.1,(c.2.2.2.2.2.2.2.2.2.2.2.2.1,(c.2.2.2.2.2.2.2.2.2.2.2.2.2.1,(c.2.2.2.2.2.2.2.2.2.2.2.2.2.2.1,((p.ar .add .i64 c.2.2.2.2.2.2.2.2.2.2.2.2.2.2.2.1 (1:Int)),())))))))))))))))))) (
 opt.need _ P<|
 opt.need _ O<|
 opt.need _ O<|
 opt.ret _ (Sum.inr (a.1,(a.2.1,(a.2.2.1,(Q,(a.2.2.2.2.1,(a.2.2.2.2.2.1,(a.2.2.2.2.2.2.2.1,(a.2.2.2.2.2.2.2.2.1,(a.2.2.2.2.2.2.2.2.2.1,(a.2.2.2.2.2.2.2.2.2.2.1,(a.2.2.2.2.2.2.2.2.2.2.2.1,(a.2.2.2.2.2.2.2.2.2.2.2.2.1,())))))))))))))))
def v6t (p:Prim):W5w→Option (W5w⊕W6w):=
 fun a=>let S:=a.2.2.2.2.2.2.2.2.2.2.2.2.2.1;let F:=a.2.2.2.2.2.2.2.2.2.2.2.2.2.2.2.1;let A:=D.int .i64 (p.rdI S (p.nat F) 0);let Q:=a.2.2.2.1;let E:=a.2.2.2.2.2.2.1;let M:=p.add 0 (p.nat E);let C:=p.len Q;let G:=p.mOk a.1 [SK.i] Bool.false A Bool.false [ci];let H:=p.mset a.1 (p.nat (p.ofNat (p.mpos a.1 [SK.i] Bool.false A))) A (D.int .i64 E);let I:=bif (p.cmp .geq E (0:Int)) then (p.cmp .lss E (p.ofNat C)) else Bool.false;let J:=p.rowOk Q M [(CK.int .u64),(CK.int .u64)];let K:=p.mhas a.1 [SK.i] Bool.false A;let O:=p.eqN C C;let P:=p.eqN 0 0;let T:=p.madd a.1 A (D.int .i64 E); opt.run _ (
 opt.ask _ (p.cmp .lss F a.2.2.2.2.2.2.2.2.2.2.2.2.2.2.1) (
 opt.bnd (W5w) _ (
 opt.run (W5w) (
 opt.need _ (p.rowOk S (p.nat F) [ci])<|
 opt.need _ (p.cmp .geq F (0:Int))<|
 opt.need _ G<|
 opt.ask _ K (
 opt.need _ I<|
 opt.need _ J<|
 opt.bnd (W0w) _ (G72 p ((p.rdI Q M 0),((p.rdI Q M 1),((p.mI a.1 [SK.i] Bool.false A 0),())))) fun b=>let B:=p.set Q M [(D.int .u64 b.1),(D.int .u64 b.2.1)];let L:=p.eqN C (p.len B);let R:=(a.2.1,(a.2.2.1,(B,a.2.2.2.2)));
 opt.need _ I<|
 opt.need _ J<|
 opt.need _ G<|
 opt.ask _ K (
 opt.need _ P<|
 opt.need _ L<|
 opt.need _ L<|
 opt.ret _ (H,R)) (
 opt.need _ P<|
 opt.need _ L<|
 opt.need _ L<|
 opt.ret _ (T,R))) (
 opt.need _ G<|
 opt.ask _ K (
 opt.need _ P<|
 opt.need _ O<|
 opt.need _ O<|
 opt.ret _ (H,a.2)) (
 opt.need _ P<|
 opt.need _ O<|
 opt.need _ O<|
 opt.ret _ (T,a.2))))) fun c=>let N:=p.len c.2.2.2.1;
 opt.need _ P<|
 opt.need _ (p.eqN N N)<|
 opt.need _ (p.eqN N N)<|
 opt.ret _ (Sum.inl (c.1,(c.2.1,(c.2.2.1,(c.2.2.2.1,(c.2.2.2.2.1,(c.2.2.2.2.2.1,(c.2.2.2.2.2.2.1,(c.2.2.2.2.2.2.2.1,(c.2.2.2.2.2.2.2.2.1,(c.2.2.2.2.2.2.2.2.2.1,(c.2.2.2.2.2.2.2.2.2.2.1,(c.2.2.2.2.2.2.2.2.2.2.2.1,(c.2.2.2.2.2.2.2.2.2.2.2.2.1,(c.2.2.2.2.2.2.2.2.2.2.2.2.2.1,(c.2.2.2.2.2.2.2.2.2.2.2.2.2.2.1,((p.ar .add .i64 c.2.2.2.2.2.2.2.2.2.2.2.2.2.2.2.1 (1:Int)),())))))))))))))))))) (
 opt.need _ P<|
 opt.need _ O<|
 opt.need _ O<|
 opt.ret _ (Sum.inr (a.1,(a.2.1,(a.2.2.1,(Q,(a.2.2.2.2.1,(a.2.2.2.2.2.1,(a.2.2.2.2.2.2.2.1,(a.2.2.2.2.2.2.2.2.1,(a.2.2.2.2.2.2.2.2.2.1,(a.2.2.2.2.2.2.2.2.2.2.1,(a.2.2.2.2.2.2.2.2.2.2.2.1,(a.2.2.2.2.2.2.2.2.2.2.2.2.1,())))))))))))))))
def v74 (p:Prim):W6w→Option (W6w⊕W30w):=
 fun a=>let E:=a.2.2.2.2.2.2.2.2.2.1;let N:=a.2.2.2.2.2.2.2.2.2.2.1;let C:=a.2.2.2.2.2.2.2.2.2.2.2.1;let O:=p.nat C;let A:=(a.2.2.2.2.2.2.1,(a.2.2.2.2.2.2.2.1,(a.2.2.2.2.2.2.2.2.1,(E,(N,(C,((p.rdL E O 2),((p.ofNat (p.len (p.rdL E O 2))),((0:Int),())))))))));let K:=a.2.2.2.1;let B:=p.eqN (p.len K) (p.len K);let F:=D.int .i64 (p.rdI E O 0);let J:=p.eqN 0 0;let L:=a.2.2.1;let M:=a.2.2.2.2.2.1; opt.run _ (
 opt.ask _ (p.cmp .lss C N) (
 opt.bnd (W6w) _ (
 opt.run (W6w) (
 opt.need _ (p.rowOk E O [ci,ci,(CK.list 1),ci])<|
 opt.need _ (p.cmp .geq C (0:Int))<|
 opt.need _ (p.mOk L [SK.i] Bool.false F Bool.false [ci])<|
 opt.ask _ (p.mhas L [SK.i] Bool.false F) (
 opt.need _ J<|
 opt.need _ B<|
 opt.need _ B<|
 opt.bnd (W6w) _ (
 z5q (v6t p) (a.1,(a.2.1,(L,(K,(a.2.2.2.2.1,(M,((p.mI L [SK.i] Bool.false F 0),A)))))))) fun b=>let I:=p.len b.2.2.2.1;
 opt.need _ J<|
 opt.need _ (p.eqN I I)<|
 opt.need _ (p.eqN I I)<|
 opt.ret _ b) (
 opt.need _ J<|
 opt.need _ B<|
 opt.need _ B<|
 opt.bnd (W6w) _ (
 z5q (u8j p) (a.1,(a.2.1,(L,(K,(a.2.2.2.2.1,(M,((0:Int),A)))))))) fun c=>let H:=p.len c.2.2.2.1;
 opt.need _ J<|
 opt.need _ (p.eqN H H)<|
 opt.need _ (p.eqN H H)<|
 opt.ret _ c))) fun d=>let G:=p.len d.2.2.2.1;
 opt.need _ J<|
 opt.need _ (p.eqN G G)<|
 opt.need _ (p.eqN G G)<|
 opt.ret _ (Sum.inl (d.1,(d.2.1,(d.2.2.1,(d.2.2.2.1,(d.2.2.2.2.1,(d.2.2.2.2.2.1,(d.2.2.2.2.2.2.1,(d.2.2.2.2.2.2.2.1,(d.2.2.2.2.2.2.2.2.1,(d.2.2.2.2.2.2.2.2.2.1,(d.2.2.2.2.2.2.2.2.2.2.1,((p.ar .add .i64 d.2.2.2.2.2.2.2.2.2.2.2.1 (1:Int)),())))))))))))))) (
 opt.need _ J<|
 opt.need _ B<|
 opt.need _ B<|
 opt.ret _ (Sum.inr (a.2.1,(L,(K,(a.2.2.2.2.1,(M,(a.2.2.2.2.2.2.1,(a.2.2.2.2.2.2.2.1,(a.2.2.2.2.2.2.2.2.1,())))))))))))
def v75 (p:Prim):W30w→Option (W30w⊕W3w):=
 fun a=>let A:=p.eqN (p.len a.2.2.1) (p.len a.2.2.1);let B:=a.2.2.2.2.2.2.2.1;let E:=a.2.2.2.2.2.1; opt.run _ (
 opt.ask _ (p.cmp .lss B a.2.2.2.2.2.2.1) (
 opt.need _ (p.rowOk E (p.nat B) [(CK.list 4)])<|
 opt.need _ (p.cmp .geq B (0:Int))<|
 opt.need _ (p.eqN 0 0)<|
 opt.need _ A<|
 opt.need _ A<|
 opt.bnd (W30w) _ (
 z5q (v74 p) ([],(a.1,(a.2.1,(a.2.2.1,(a.2.2.2.1,(a.2.2.2.2.1,(E,(a.2.2.2.2.2.2.1,(B,((p.rdL E (p.nat B) 0),((p.ofNat (p.len (p.rdL E (p.nat B) 0))),((0:Int),()))))))))))))) fun b=>let C:=p.len b.2.2.1;
 opt.need _ (p.eqN 0 0)<|
 opt.need _ (p.eqN C C)<|
 opt.need _ (p.eqN C C)<|
 opt.ret _ (Sum.inl (b.1,(b.2.1,(b.2.2.1,(b.2.2.2.1,(b.2.2.2.2.1,(b.2.2.2.2.2.1,(b.2.2.2.2.2.2.1,((p.ar .add .i64 b.2.2.2.2.2.2.2.1 (1:Int)),())))))))))) (
 opt.need _ (p.eqN 0 0)<|
 opt.need _ A<|
 opt.need _ A<|
 opt.ret _ (Sum.inr (a.1,(a.2.1,(a.2.2.1,(a.2.2.2.1,(a.2.2.2.2.1,()))))))))
def v6u (p:Prim):W8w→Option (W8w⊕(LD×(List (W25w)×W59w))):=
 fun a=>let L:=a.2.2.2.2.2.2.2.2.1;let G:=a.2.2.2.2.2.2.2.2.2.2.1;let Q:=p.nat G;let C:=D.int .i64 (p.rdI L Q 0);let A:=[[C,(D.int .i64 (p.rdI L Q 1)),(D.list (p.rdF L Q 2 1) 1 (p.rdL L Q 2)),(D.int .i64 (p.rdI L Q 3))]];let F:=p.ofNat a.2.2.2.1;let S:=(0:Int);let B:=p.sub (p.nat F) (p.nat S);let E:=p.add a.2.2.1 (p.nat S);let H:=p.leN (p.add E B) (p.len a.1);let I:=p.splice a.1 (p.add E B) (p.cut A 0 1);let J:=p.and (p.cmp .geq S S) (p.and (p.cmp .leq S F) (p.and (p.cmp .leq F F) (p.cmp .leq F F)));let X:=p.leN (p.add 0 1) (p.len A);let Y:=p.add B 1;let K:=p.and X (p.and H (p.and (p.leN 1 1) (p.leN Y 1000000)));let M:=p.mset a.2.1 (p.nat (p.ofNat (p.mpos a.2.1 [SK.i] Bool.false C))) C (D.int .i64 F);let N:=p.and X (p.and H (p.and (p.leN 1 1) H));let O:=(Y,a.2.2.2.2);let P:=p.mOk a.2.1 [SK.i] Bool.false C Bool.false [ci];let R:=p.app (p.cut a.1 E B) (p.cut A 0 1);let T:=p.mhas a.2.1 [SK.i] Bool.false C;let U:=p.madd a.2.1 C (D.int .i64 F);let V:=p.leN (p.add E B) (p.len I); opt.run _ (
 opt.ask _ (p.cmp .lss G a.2.2.2.2.2.2.2.2.2.1) (
 opt.bnd (W8w) _ (
 opt.run (W8w) (
 opt.need _ (p.rowOk L Q [ci,ci,(CK.list 1),ci])<|
 opt.need _ (p.cmp .geq G S)<|
 opt.need _ P<|
 opt.ask _ T (
 opt.bnd (W8w) _ (
 opt.run (W8w) (
 opt.ret _ a)) fun b=>
 opt.ret _ b) (
 opt.bnd (W8w) _ (
 opt.run (W8w) (
 opt.need _ P<|
 opt.ask _ T (
 opt.need _ J<|
 opt.ask _ (p.leN Y B) (
 opt.need _ N<|
 opt.need _ V<|
 opt.ret _ (I,(M,(E,O)))) (
 opt.need _ K<|
 opt.ret _ (R,(M,(0,O))))) (
 opt.need _ J<|
 opt.ask _ (p.leN Y B) (
 opt.need _ N<|
 opt.need _ V<|
 opt.ret _ (I,(U,(E,O)))) (
 opt.need _ K<|
 opt.ret _ (R,(U,(0,O))))))) fun c=>
 opt.ret _ c))) fun d=>
 opt.ret _ (Sum.inl (d.1,(d.2.1,(d.2.2.1,(d.2.2.2.1,(d.2.2.2.2.1,(d.2.2.2.2.2.1,(d.2.2.2.2.2.2.1,(d.2.2.2.2.2.2.2.1,(d.2.2.2.2.2.2.2.2.1,(d.2.2.2.2.2.2.2.2.2.1,((p.ar .add .i64 d.2.2.2.2.2.2.2.2.2.2.1 (1:Int)),()))))))))))))) (
 opt.ret _ (Sum.inr (a.1,(a.2.1,(a.2.2.1,(a.2.2.2.1,(a.2.2.2.2.1,(a.2.2.2.2.2.1,(a.2.2.2.2.2.2.1,(a.2.2.2.2.2.2.2.1,())))))))))))
def v76 (p:Prim):(List (W25w)×(LD×W59w))→Option ((List (W25w)×(LD×W59w))⊕(LD×(List (W25w)×(Nat×(Nat×W14w))))):=
 fun a=>let A:=a.2.2.2.2.2.2.2.1;let B:=a.2.2.2.2.2.1; opt.run _ (
 opt.ask _ (p.cmp .lss A a.2.2.2.2.2.2.1) (
 opt.need _ (p.rowOk B (p.nat A) [(CK.list 4)])<|
 opt.need _ (p.cmp .geq A (0:Int))<|
 opt.bnd ((LD×(List (W25w)×W59w))) _ (
 z5q (v6u p) (a.2.1,(a.1,(a.2.2.1,(a.2.2.2.1,(a.2.2.2.2.1,(B,(a.2.2.2.2.2.2.1,(A,((p.rdL B (p.nat A) 0),((p.ofNat (p.len (p.rdL B (p.nat A) 0))),((0:Int),())))))))))))) fun b=>
 opt.ret _ (Sum.inl (b.2.1,(b.1,(b.2.2.1,(b.2.2.2.1,(b.2.2.2.2.1,(b.2.2.2.2.2.1,(b.2.2.2.2.2.2.1,((p.ar .add .i64 b.2.2.2.2.2.2.2.1 (1:Int)),())))))))))) (
 opt.ret _ (Sum.inr (a.2.1,(a.1,(a.2.2.1,(a.2.2.2.1,(a.2.2.2.2.1,()))))))))
def G66:(p:Prim)→W14w→Option (W3w):=
 fun p x=>let E:=(0:Int);
 opt.bnd ((LD×(List (W25w)×(Nat×(Nat×W14w))))) _ (
 z5q (v76 p) ([],([],(0,(0,(x.1,(x.1,((p.ofNat (p.len x.1)),(E,()))))))))) fun a=>let B:=p.ofNat a.2.2.2.1;let A:=p.rep (p.nat B) [(D.int .u64 E),(D.int .u64 E)];let F:=p.eqN (p.nat B) (p.len A);
 opt.need _ (p.and (p.cmp .geq B E) (p.and (p.cmp .leq B B) (p.cmp .leq B (1000000:Int))))<|
 opt.need _ (p.eqN 0 0)<|
 opt.need _ F<|
 opt.need _ F<|
 opt.bnd (W3w) _ (
 z5q (v75 p) (a.1,(a.2.1,(A,(a.2.2.1,(a.2.2.2.1,(a.2.2.2.2.1,((p.ofNat (p.len a.2.2.2.2.1)),(E,()))))))))) fun b=>let C:=p.len b.2.2.1;
 opt.need _ (p.eqN 0 0)<|
 opt.need _ (p.eqN C C)<|
 opt.need _ (p.eqN C C)<|
 opt.ret _ b
theorem u5h:CtrOk PG v7r (G66 std):=okF vE (a:=an66) (l:=la66) (gC u5r (gN))
end Go.Am
end
noncomputable section
namespace Go.Am
def v86:Ctr:=
 ⟨67,[.bptr 0 0],q23m,[(.ret,⟨[(0, .vec 4 4)],[q2m,q8m, .map,q1m,q8m],1⟩)]⟩
def la67:List LA:=
 [⟨67,[fF,tT,fF,tT,tT,tT],4,⟨⟨[(1, .bptr 4 0),(3, .bptr 5 0),(4, .vec 6 4),(11, .int .i64),(12, .int .i64)],[q2m,q8m, .map,q1m,q11m,q10m,q8m],56⟩,[((AX.exit 0),⟨[(4, .vec 4 4)],[q2m,q8m, .map,q1m,q8m],56⟩)]⟩⟩,
 ⟨131,[fF,tT],11,⟨⟨[(0, .yld 10),(2, .bptr 9 0),(9, .full 3 2),(10, .int .i64),(11, .int .i64)],[q2m,q8m, .map,q1m,q11m,q10m,q8m,q12m,q11m,q10m, .loop Go.LoopState.ready Option.none 67 [Bool.false,Bool.true,Bool.false,Bool.true,Bool.false,Bool.false,Bool.true,Bool.true,Bool.false,Bool.false,Bool.true,Bool.false,Bool.true,Bool.true,Bool.true] 56 [(16, .clo 131 [] [.bptr 8 0, .bptr 9 0]),(5, .bptr 7 0),(1, .bptr 4 0),(11, .int .i64),(12, .int .i64),(4, .vec 6 4),(3, .bptr 5 0)]],34⟩,[((AX.exit 0),⟨[],[q2m,q8m, .map,q1m,q11m,q10m,q8m,q12m,q11m,q10m, .loop Go.LoopState.ready Option.none 67 [Bool.false,Bool.true,Bool.false,Bool.true,Bool.false,Bool.false,Bool.true,Bool.true,Bool.false,Bool.false,Bool.true,Bool.false,Bool.true,Bool.true,Bool.true] 56 [(16, .clo 131 [] [.bptr 8 0, .bptr 9 0]),(5, .bptr 7 0),(1, .bptr 4 0),(11, .int .i64),(12, .int .i64),(4, .vec 6 4),(3, .bptr 5 0)]],34⟩)]⟩⟩]
def ja67:List JA:=
 [⟨67,[tT,fF,tT,fF,tT,fF,tT,fF,fF,tT,tT,fF,fF,tT,fF,tT,tT,tT],12,[(AX.normal,⟨[(1, .bptr 4 0),(3, .bptr 5 0),(4, .vec 6 4),(5, .bptr 7 0),(11, .int .i64),(12, .int .i64)],[q2m,q8m, .map,q1m,q11m,q10m,q8m,q12m,q11m,q10m, .dead,q10m],56⟩)]⟩,
 ⟨131,[fF,tT,tT,fF,fF,tT],11,[(AX.normal,⟨[(0, .yld 10),(2, .bptr 9 0),(9, .full 3 2),(10, .int .i64),(11, .int .i64)],[q2m,q8m, .map,q1m,q11m,q10m,q8m,q12m,q11m,q10m, .loop Go.LoopState.ready Option.none 67 [Bool.false,Bool.true,Bool.false,Bool.true,Bool.false,Bool.false,Bool.true,Bool.true,Bool.false,Bool.false,Bool.true,Bool.false,Bool.true,Bool.true,Bool.true] 56 [(16, .clo 131 [] [.bptr 8 0, .bptr 9 0]),(5, .bptr 7 0),(1, .bptr 4 0),(11, .int .i64),(12, .int .i64),(4, .vec 6 4),(3, .bptr 5 0)]],34⟩)]⟩,
 ⟨67,[tT,fF,tT,fF,tT,fF,fF,tT,tT,fF,fF,tT,fF,tT,tT,tT],12,[(AX.normal,⟨[(1, .bptr 4 0),(3, .bptr 5 0),(4, .vec 6 4),(5, .bptr 7 0),(11, .int .i64),(12, .int .i64)],[q2m,q8m, .map,q1m,q11m,q10m,q8m,q12m,q11m,q10m, .dead,q10m],56⟩)]⟩]
def u7q:List CF:=
 [⟨u3s,G75⟩,⟨v85,G72⟩,⟨v7t,u2c⟩,⟨v5d,G74⟩]
def an67:Anns:=
 ⟨u7q,ja67,[]⟩
def v3w (p:Prim):W2w→Option (W2w⊕W57w):=
 fun a=>let K:=a.2.2.1;let V:=p.len K;let A:=p.eqN V V;let B:=a.2.2.2.2.2.2.2.2.2.2.2.2.2.2.1;let O:=a.2.2.2.2.2.2.2.2.2.1;let M:=a.2.2.2.2.2.2.2.2.2.2.1;let J:=p.add 0 (p.nat B);let A1:=p.rdI K J 0;let Z:=p.rdI K J 1;let N:=(a.2.2.2.2.2.2.2.2.2.2.2.1,(a.2.2.2.2.2.2.2.2.2.2.2.2.1,()));let C:=(O,(M,(A1,(Z,N))));let E:=p.eqN 0 0;let T:=a.2.2.2.1;let F:=p.eqN (p.len T) (p.len T);let P:=a.2.2.2.2.1;let Q:=a.2.2.2.2.2.1;let X:=a.2.2.2.2.2.2.1;let U:=a.2.2.2.2.2.2.2.1;let G:=(a.1,(a.2.1,(K,(T,(P,(Q,(X,(U,(B,C)))))))));let I:=a.2.2.2.2.2.2.2.2.1;let Y:=[ci,ci,(CK.list 1),ci];let A2:=p.cmp .geq B (0:Int); opt.run _ (
 opt.ask _ (p.cmp .lss B a.2.2.2.2.2.2.2.2.2.2.2.2.2.1) (
 opt.bnd (W2w) _ (
 opt.run (W2w) (
 opt.need _ (bif A2 then (p.cmp .lss B (p.ofNat V)) else Bool.false)<|
 opt.need _ (p.rowOk K J [(CK.int .u64),(CK.int .u64)])<|
 opt.bnd (W4w) _ (G74 p (O,(M,a.2.2.2.2.2.2.2.2.2.2.2.2.2.2))) fun b=>
 opt.ask _ (bif b.1 then Bool.false else Bool.true) (
 opt.bnd (W0w) _ (u2c p (A1,(Z,(O,(M,()))))) fun c=>
 opt.ask _ (bif (p.cmp .eql c.1 A1) then (bif (p.cmp .eql c.2.1 Z) then Bool.true else Bool.false) else Bool.false) (
 opt.bnd (W2w) _ (
 opt.run (W2w) (
 opt.ask _ (p.cmp .lss I (0:Int)) (
 opt.bnd (W2w) _ (
 opt.run (W2w) (
 opt.need _ E<|
 opt.need _ A<|
 opt.need _ A<|
 opt.need _ E<|
 opt.need _ F<|
 opt.ret _ G)) fun d=>let S:=p.len d.2.2.1;
 opt.need _ E<|
 opt.need _ (p.eqN S S)<|
 opt.need _ (p.eqN S S)<|
 opt.need _ E<|
 opt.need _ (p.eqN (p.len d.2.2.2.1) (p.len d.2.2.2.1))<|
 opt.ret _ d) (
 opt.need _ (bif A2 then (p.cmp .lss B (p.ofNat Q)) else Bool.false)<|
 opt.need _ (p.rowOk a.1 (p.add P (p.nat B)) Y)<|
 opt.need _ (bif (p.cmp .geq I (0:Int)) then (p.cmp .lss I (p.ofNat Q)) else Bool.false)<|
 opt.need _ (p.rowOk a.1 (p.add P (p.nat I)) Y)<|
 opt.bnd (W2w) _ (
 opt.run (W2w) (
 opt.ask _ (p.cmp .lss (p.rdI a.1 (p.add P (p.nat B)) 0) (p.rdI a.1 (p.add P (p.nat I)) 0)) (
 opt.need _ E<|
 opt.need _ A<|
 opt.need _ A<|
 opt.need _ E<|
 opt.need _ F<|
 opt.ret _ G) (
 opt.need _ E<|
 opt.need _ A<|
 opt.need _ A<|
 opt.need _ E<|
 opt.need _ F<|
 opt.ret _ (a.1,(a.2.1,(K,(T,(P,(Q,(X,(U,(I,C)))))))))))) fun e=>let R:=p.len e.2.2.1;
 opt.need _ E<|
 opt.need _ (p.eqN R R)<|
 opt.need _ (p.eqN R R)<|
 opt.need _ E<|
 opt.need _ (p.eqN (p.len e.2.2.2.1) (p.len e.2.2.2.1))<|
 opt.ret _ e))) fun f=>let L:=p.len f.2.2.1;
 opt.need _ E<|
 opt.need _ (p.eqN L L)<|
 opt.need _ (p.eqN L L)<|
 opt.need _ E<|
 opt.need _ (p.eqN (p.len T) (p.len f.2.2.2.1))<|
 opt.need _ E<|
 opt.need _ (p.eqN V L)<|
 opt.need _ (p.eqN V L)<|
 opt.ret _ (f.1,(f.2.1,(f.2.2.1,(f.2.2.2.1,(f.2.2.2.2.1,(f.2.2.2.2.2.1,(f.2.2.2.2.2.2.1,(f.2.2.2.2.2.2.2.1,(f.2.2.2.2.2.2.2.2.1,(f.2.2.2.2.2.2.2.2.2.1,(f.2.2.2.2.2.2.2.2.2.2.1,a.2.2.2.2.2.2.2.2.2.2.2)))))))))))) (
 opt.need _ E<|
 opt.need _ A<|
 opt.need _ A<|
 opt.need _ E<|
 opt.need _ F<|
 opt.need _ E<|
 opt.need _ A<|
 opt.need _ A<|
 opt.ret _ a)) (
 opt.need _ E<|
 opt.need _ A<|
 opt.need _ A<|
 opt.need _ E<|
 opt.need _ F<|
 opt.need _ E<|
 opt.need _ A<|
 opt.need _ A<|
 opt.ret _ a))) fun g=>let H:=p.eqN (p.len g.2.2.1) (p.len g.2.2.1);
 opt.need _ E<|
 opt.need _ H<|
 opt.need _ H<|
 opt.need _ E<|
 opt.need _ (p.eqN (p.len g.2.2.2.1) (p.len g.2.2.2.1))<|
 opt.need _ E<|
 opt.need _ H<|
 opt.need _ H<|
 opt.ret _ (Sum.inl (g.1,(g.2.1,(g.2.2.1,(g.2.2.2.1,(g.2.2.2.2.1,(g.2.2.2.2.2.1,(g.2.2.2.2.2.2.1,(g.2.2.2.2.2.2.2.1,(g.2.2.2.2.2.2.2.2.1,(g.2.2.2.2.2.2.2.2.2.1,(g.2.2.2.2.2.2.2.2.2.2.1,(g.2.2.2.2.2.2.2.2.2.2.2.1,(g.2.2.2.2.2.2.2.2.2.2.2.2.1,(g.2.2.2.2.2.2.2.2.2.2.2.2.2.1,((p.ar .add .i64 g.2.2.2.2.2.2.2.2.2.2.2.2.2.2.1 (1:Int)),()))))))))))))))))) (
 opt.need _ E<|
 opt.need _ A<|
 opt.need _ A<|
 opt.need _ E<|
 opt.need _ F<|
 opt.ret _ (Sum.inr (a.1,(a.2.1,(K,(T,(P,(Q,(X,(U,(I,(O,(M,N))))))))))))))
def v73 (p:Prim):W58w→Option (W58w⊕W12w):=
 fun a=>let L:=p.len a.2.2.1;let B:=p.eqN L L;let E:=p.len a.2.2.2.1;let F:=p.eqN 0 0;let J:=a.2.2.2.2.2.2.2.2.2.1;let K:=a.2.2.2.2.2.2.2.2.1; opt.run _ (
 opt.ask _ (p.cmp .lss J K) (
 opt.need _ F<|
 opt.need _ B<|
 opt.need _ B<|
 opt.need _ F<|
 opt.need _ (p.eqN E E)<|
 opt.need _ F<|
 opt.need _ B<|
 opt.need _ B<|
 opt.bnd (W57w) _ (
 z5q (v3w p) (a.1,(a.2.1,(a.2.2.1,(a.2.2.2.1,(a.2.2.2.2.1,(a.2.2.2.2.2.1,(a.2.2.2.2.2.2.1,(a.2.2.2.2.2.2.2.1,((-1:Int),(a.2.2.2.2.2.2.1,(a.2.2.2.2.2.2.2.1,(K,(J,((p.ofNat L),((0:Int),())))))))))))))))) fun b=>let G:=b.2.2.2.2.2.2.2.2.1;let C:=p.add b.2.2.2.2.1 (p.nat G);let I:=p.len b.2.2.1;
 opt.bnd (W0w) _ (G72 p (b.2.2.2.2.2.2.1,(b.2.2.2.2.2.2.2.1,(G,())))) fun c=>
 opt.need _ (bif (p.cmp .geq G (0:Int)) then (p.cmp .lss G (p.ofNat b.2.2.2.2.2.1)) else Bool.false)<|
 opt.need _ (p.rowOk b.1 C [ci,ci,(CK.list 1),ci])<|
 opt.bnd (W26w) _ (G75 p ((p.rdI b.1 C 0),((p.rdI b.1 C 1),((p.rdL b.1 C 2),((p.rdI b.1 C 3),()))))) fun d=>let A:=[[(D.int .i64 d.1),(D.int .i64 d.2.1),(D.list Bool.false 1 d.2.2.1),(D.int .i64 d.2.2.2.1)]];let H:=p.app (p.cut b.2.2.2.1 0 E) (p.cut A 0 1);
 opt.need _ (p.and (p.leN (p.add 0 1) (p.len A)) (p.and (p.leN (p.add 0 E) (p.len b.2.2.2.1)) (p.and (p.leN 1 1) (p.leN (p.add E 1) 1000000))))<|
 opt.need _ F<|
 opt.need _ (p.eqN I I)<|
 opt.need _ (p.eqN I I)<|
 opt.need _ F<|
 opt.need _ (p.eqN (p.add E 1) (p.len H))<|
 opt.ret _ (Sum.inl (b.1,(b.2.1,(b.2.2.1,(H,(b.2.2.2.2.1,(b.2.2.2.2.2.1,(c.1,(c.2.1,(K,((p.ar .add .i64 J (1:Int)),())))))))))))) (
 opt.need _ F<|
 opt.need _ B<|
 opt.need _ B<|
 opt.need _ F<|
 opt.need _ (p.eqN E E)<|
 opt.ret _ (Sum.inr (a.1,(a.2.1,(a.2.2.1,(a.2.2.2.1,(a.2.2.2.2.1,(a.2.2.2.2.2.1,())))))))))
def G67:(p:Prim)→W3w→Option (W12w):=
 fun p x=>let A:=p.len x.2.2.1;
 opt.need _ (p.eqN 0 0)<|
 opt.need _ (p.eqN A A)<|
 opt.need _ (p.eqN A A)<|
 opt.bnd (W12w) _ (
 z5q (v73 p) (x.1,(x.2.1,(x.2.2.1,([],(x.2.2.2.1,(x.2.2.2.2.1,((0:Int),((0:Int),((p.ofNat x.2.2.2.2.1),((0:Int),()))))))))))) fun a=>let B:=p.len a.2.2.1;
 opt.need _ (p.eqN 0 0)<|
 opt.need _ (p.eqN B B)<|
 opt.need _ (p.eqN B B)<|
 opt.need _ (p.eqN 0 0)<|
 opt.need _ (p.eqN (p.len a.2.2.2.1) (p.len a.2.2.2.1))<|
 opt.ret _ a
theorem u5s:CtrOk PG v86 (G67 std):=okF vD (a:=an67) (l:=la67) (gC ok75 (gC u5r (gC u2t (gC u2i (gN)))))
def u4e:Ctr:=
 ⟨29,[.list 4],[],[(.ret,⟨[(0, .tuple [.vec 0 4, .int .i64])],[q8m],1⟩)]⟩
def la29:List LA:=
 []
def ja29:List JA:=
 []
def u8c:List CF:=
 [⟨v86,G67⟩,⟨v7r,G66⟩,⟨w71,F19⟩]
def an29:Anns:=
 ⟨u8c,ja29,[]⟩
def G29:(p:Prim)→W14w→Option (W18w):=
 fun p x=>
 opt.bnd (W1w) _ (G19 p x) fun a=>
 opt.ask _ (p.cmp .neq a.1 (0:Int)) (
 opt.ret _ ([],a)) (
 opt.bnd (W3w) _ (G66 p ([[(D.list Bool.false 4 x.1)]],())) fun b=>let A:=p.len b.2.2.1;
 opt.need _ (p.eqN 0 0)<|
 opt.need _ (p.eqN A A)<|
 opt.need _ (p.eqN A A)<|
 opt.bnd (W12w) _ (G67 p b) fun c=>
 opt.need _ (p.eqN 0 0)<|
 opt.need _ (p.eqN (p.len c.2.2.2.1) (p.len c.2.2.2.1))<|
 opt.ret _ (c.2.2.2.1,((0:Int),())))
theorem ok29:CtrOk PG u4e (G29 std):=okF vD (a:=an29) (l:=la29) (gC u5s (gC u5h (gC v1x (gN))))
end Go.Am
end
noncomputable section
namespace Go.Am
def u1m:Ctr:=
 ⟨79,[.list 4],[],[(.ret,⟨[(0, .map 0)],[.map],1⟩)]⟩
def la79:List LA:=
 [⟨79,[fF,tT,fF,tT,tT],0,⟨⟨[(3, .map 0),(7, .list 4),(8, .int .i64),(9, .int .i64)],[.map],19⟩,[((AX.exit 0),⟨[(3, .map 0)],[.map],19⟩)]⟩⟩]
def ja79:List JA:=
 [⟨79,[fF,tT,tT,fF,fF,tT,fF,tT,tT],0,[(AX.normal,⟨[(3, .map 0),(7, .list 4),(8, .int .i64),(9, .int .i64)],[.map],19⟩)]⟩]
def u7h:List CF:=
 []
def an79:Anns:=
 ⟨u7h,ja79,[]⟩
def v70 (p:Prim):W32w→Option (W32w⊕W50w):=
 fun a=>let C:=p.nat a.2.2.2.1;let A:=D.int .i64 (p.rdI a.2.1 C 0);let B:=D.agg [A,(D.int .i64 (p.rdI a.2.1 C 1)),(D.list (p.rdF a.2.1 C 2 1) 1 (p.rdL a.2.1 C 2)),(D.int .i64 (p.rdI a.2.1 C 3))];let E:=[ci,ci,(CK.list 1),ci]; opt.run _ (
 opt.ask _ (p.cmp .lss a.2.2.2.1 a.2.2.1) (
 opt.bnd (W32w) _ (
 opt.run (W32w) (
 opt.need _ (p.rowOk a.2.1 C E)<|
 opt.need _ (p.cmp .geq a.2.2.2.1 (0:Int))<|
 opt.need _ (p.mOk a.1 [SK.i] Bool.false A Bool.true E)<|
 opt.ask _ (p.mhas a.1 [SK.i] Bool.false A) (
 opt.ret _ ((p.mset a.1 (p.nat (p.ofNat (p.mpos a.1 [SK.i] Bool.false A))) A B),a.2)) (
 opt.ret _ ((p.madd a.1 A B),a.2)))) fun b=>
 opt.ret _ (Sum.inl (b.1,(b.2.1,(b.2.2.1,((p.ar .add .i64 b.2.2.2.1 (1:Int)),())))))) (
 opt.ret _ (Sum.inr (a.1,()))))
def G79:(p:Prim)→W14w→Option (W50w):=
 fun p x=>
 opt.bnd (W50w) _ (
 z5q (v70 p) ([],(x.1,((p.ofNat (p.len x.1)),((0:Int),()))))) fun a=>
 opt.ret _ a
theorem u9d:CtrOk PG u1m (G79 std):=okF vE (a:=an79) (l:=la79) (gN)
def v96:Ctr:=
 ⟨118,[.list 1, .list 1],[],[(.ret,⟨[(0, .bool)],[],1⟩)]⟩
def u6f:List LA:=
 [⟨118,[fF,tT,fF,tT,tT],0,⟨⟨[(0, .list 1),(1, .list 1),(12, .int .i64),(13, .int .i64)],[],26⟩,[(AX.ret,⟨[(4, .bool)],[],26⟩),((AX.exit 0),⟨[],[],26⟩)]⟩⟩]
def u6q:List JA:=
 []
def u3e:List CF:=
 []
def u8o:Anns:=
 ⟨u3e,u6q,[]⟩
def v35 (p:Prim):W45w→Option (W45w⊕(W4w⊕Unit)):=
 fun a=>let A:=a.2.2.2.1;let B:=p.cmp .geq A (0:Int);let C:=p.nat A; opt.run _ (
 opt.ask _ (p.cmp .lss A a.2.2.1) (
 opt.need _ (p.rowOk a.1 C [ci])<|
 opt.need _ B<|
 opt.need _ (p.rowOk a.2.1 C [ci])<|
 opt.need _ B<|
 opt.ask _ (p.cmp .neq (p.rdI a.1 C 0) (p.rdI a.2.1 C 0)) (
 opt.ret _ (Sum.inr (Sum.inl (Bool.false,())))) (
 opt.ret _ (Sum.inl (a.1,(a.2.1,(a.2.2.1,((p.ar .add .i64 A (1:Int)),()))))))) (
 opt.ret _ (Sum.inr (Sum.inr ()))))
def u2k:(p:Prim)→W42w→Option (W4w):=
 fun p x=>
 opt.ask _ (p.cmp .neq (p.ofNat (p.len x.1)) (p.ofNat (p.len x.2.1))) (
 opt.ret _ (Bool.false,())) (
 opt.alt (W4w) (Unit) _ (
 z5q (v35 p) (x.1,(x.2.1,((p.ofNat (p.len x.1)),((0:Int),()))))) (fun a=>
 opt.ret _ a) (fun b=>
 opt.bnd (Unit) _ (some b) fun c=>
 opt.ret _ (Bool.true,())))
theorem u5u:CtrOk PG v96 (u2k std):=okF vE (a:=u8o) (l:=u6f) (gN)
def v84:Ctr:=
 ⟨80,[.agg [.int .i64, .int .i64, .list 1, .int .i64], .agg [.int .i64, .int .i64, .list 1, .int .i64]],[],[(.ret,⟨[(0, .bool)],[],1⟩)]⟩
def la80:List LA:=
 []
def ja80:List JA:=
 [⟨80,[fF,tT],0,[(AX.normal,⟨[(4, .bool)],[],31⟩)]⟩]
def u7g:List CF:=
 [⟨v96,u2k⟩]
def an80:Anns:=
 ⟨u7g,ja80,[]⟩
def G80:(p:Prim)→W44w→Option (W4w):=
 fun p x=>
 opt.bnd (W4w) _ (
 opt.run (W4w) (
 opt.ask _ (p.cmp .eql x.1 x.2.2.2.2.1) (
 opt.ask _ (p.cmp .eql x.2.1 x.2.2.2.2.2.1) (
 opt.ask _ (p.cmp .eql x.2.2.2.1 x.2.2.2.2.2.2.2.1) (
 opt.bnd (W4w) _ (u2k p (x.2.2.1,(x.2.2.2.2.2.2.1,()))) fun a=>
 opt.ret _ a) (
 opt.ret _ (Bool.false,()))) (
 opt.ret _ (Bool.false,()))) (
 opt.ret _ (Bool.false,())))) fun b=>
 opt.ret _ b
theorem u5q:CtrOk PG v84 (G80 std):=okF vE (a:=an80) (l:=la80) (gC u5u (gN))
def v83:Ctr:=
 ⟨90,[.list 4, .list 4],[],[(.ret,⟨[(0, .int .i64)],[],1⟩)]⟩
def la90:List LA:=
 [⟨90,[fF,tT,fF,tT,tT,tT],0,⟨⟨[(6, .map 0),(19, .list 4),(20, .int .i64),(21, .int .i64)],[.map],40⟩,[(AX.ret,⟨[(4, .int .i64)],[],40⟩),((AX.exit 0),⟨[],[],40⟩)]⟩⟩]
def ja90:List JA:=
 [⟨90,[fF,tT,tT,fF,fF,tT,fF,tT,tT,tT],0,[(AX.ret,⟨[(4, .int .i64)],[],40⟩),(AX.normal,⟨[(6, .map 0),(19, .list 4),(20, .int .i64),(21, .int .i64)],[.map],40⟩)]⟩]
def u7d:List CF:=
 [⟨u1m,G79⟩,⟨v84,G80⟩,⟨u1n,G78⟩]
def an90:Anns:=
 ⟨u7d,ja90,[]⟩
def v5h (p:Prim):W32w→Option (W32w⊕(W1w⊕Unit)):=
 fun a=>let B:=p.nat a.2.2.2.1;let A:=D.int .i64 (p.rdI a.2.1 B 0);let C:=[ci,ci,(CK.list 1),ci];let E:=[SK.i]; opt.run _ (
 opt.ask _ (p.cmp .lss a.2.2.2.1 a.2.2.1) (
 opt.alt (W1w) (W32w) _ (
 opt.run ((W1w⊕W32w)) (
 opt.need _ (p.rowOk a.2.1 B C)<|
 opt.need _ (p.cmp .geq a.2.2.2.1 (0:Int))<|
 opt.need _ (p.mOk a.1 E Bool.false A Bool.true C)<|
 opt.ask _ (p.mhas a.1 E Bool.false A) (
 opt.bnd (W4w) _ (G80 p ((p.mI a.1 E Bool.false A 0),((p.mI a.1 E Bool.false A 1),((p.mL a.1 E Bool.false A 2),((p.mI a.1 E Bool.false A 3),((p.rdI a.2.1 B 0),((p.rdI a.2.1 B 1),((p.rdL a.2.1 B 2),((p.rdI a.2.1 B 3),()))))))))) fun b=>
 opt.ask _ (bif b.1 then Bool.false else Bool.true) (
 opt.ret _ (Sum.inl ((15:Int),()))) (
 opt.ret _ (Sum.inr a))) (
 opt.ret _ (Sum.inr a)))) (fun c=>
 opt.ret _ (Sum.inr (Sum.inl c))) (fun d=>
 opt.bnd (W32w) _ (some d) fun e=>
 opt.ret _ (Sum.inl (e.1,(e.2.1,(e.2.2.1,((p.ar .add .i64 e.2.2.2.1 (1:Int)),()))))))) (
 opt.ret _ (Sum.inr (Sum.inr ()))))
def G90:(p:Prim)→W42w→Option (W1w):=
 fun p x=>
 opt.bnd (W1w) _ (G78 p x) fun a=>
 opt.ask _ (p.cmp .neq a.1 (0:Int)) (
 opt.ret _ a) (
 opt.bnd (W50w) _ (G79 p (x.1,())) fun b=>
 opt.alt (W1w) (Unit) _ (
 z5q (v5h p) (b.1,(x.2.1,((p.ofNat (p.len x.2.1)),((0:Int),()))))) (fun c=>
 opt.ret _ c) (fun d=>
 opt.bnd (Unit) _ (some d) fun e=>
 opt.ret _ ((0:Int),())))
theorem u5p:CtrOk PG v83 (G90 std):=okF vE (a:=an90) (l:=la90) (gC u9d (gC u5q (gC u9e (gN))))
def u3r:Ctr:=
 ⟨81,[.list 4, .list 4, .clo 80 [] []],[],[(.ret,⟨[(0, .bool)],[],1⟩)]⟩
def la81:List LA:=
 [⟨81,[fF,tT,fF,tT,tT],0,⟨⟨[(1, .list 4),(2, .clo 80 [] []),(15, .list 4),(16, .int .i64),(17, .int .i64)],[],32⟩,[(AX.ret,⟨[(6, .bool)],[],32⟩),((AX.exit 0),⟨[],[],32⟩)]⟩⟩]
def ja81:List JA:=
 []
def u7f:List CF:=
 [⟨v84,G80⟩]
def an81:Anns:=
 ⟨u7f,ja81,[]⟩
def v6r (p:Prim):W45w→Option (W45w⊕(W4w⊕Unit)):=
 fun a=>let E:=a.2.2.2.1;let A:=p.nat E;let B:=p.cmp .geq E (0:Int);let C:=[ci,ci,(CK.list 1),ci]; opt.run _ (
 opt.ask _ (p.cmp .lss E a.2.2.1) (
 opt.need _ (p.rowOk a.2.1 A C)<|
 opt.need _ B<|
 opt.need _ (p.rowOk a.1 A C)<|
 opt.need _ B<|
 opt.bnd (W4w) _ (G80 p ((p.rdI a.2.1 A 0),((p.rdI a.2.1 A 1),((p.rdL a.2.1 A 2),((p.rdI a.2.1 A 3),((p.rdI a.1 A 0),((p.rdI a.1 A 1),((p.rdL a.1 A 2),((p.rdI a.1 A 3),()))))))))) fun b=>
 opt.ask _ (bif b.1 then Bool.false else Bool.true) (
 opt.ret _ (Sum.inr (Sum.inl (Bool.false,())))) (
 opt.ret _ (Sum.inl (a.1,(a.2.1,(a.2.2.1,((p.ar .add .i64 E (1:Int)),()))))))) (
 opt.ret _ (Sum.inr (Sum.inr ()))))
def G81:(p:Prim)→W42w→Option (W4w):=
 fun p x=>
 opt.ask _ (p.cmp .neq (p.ofNat (p.len x.1)) (p.ofNat (p.len x.2.1))) (
 opt.ret _ (Bool.false,())) (
 opt.alt (W4w) (Unit) _ (
 z5q (v6r p) (x.2.1,(x.1,((p.ofNat (p.len x.1)),((0:Int),()))))) (fun a=>
 opt.ret _ a) (fun b=>
 opt.bnd (Unit) _ (some b) fun c=>
 opt.ret _ (Bool.true,())))
theorem ok81:CtrOk PG u3r (G81 std):=okF vE (a:=an81) (l:=la81) (gC u5q (gN))
end Go.Am
end
noncomputable section
namespace Go.Am
def u4c:Ctr:=
 ⟨35,[.list 4, .list 4],[],[(.ret,⟨[(0, .int .i64)],[],1⟩)]⟩
def la35:List LA:=
 [⟨35,[fF,tT,fF,tT,tT,tT],0,⟨⟨[(0, .list 4),(1, .list 4),(6, .map 0),(19, .list 4),(20, .int .i64),(21, .int .i64)],[.map],57⟩,[(AX.ret,⟨[(4, .int .i64)],[],57⟩),((AX.exit 0),⟨[(0, .list 4),(1, .list 4),(6, .map 0)],[.map],57⟩)]⟩⟩]
def ja35:List JA:=
 [⟨35,[fF,tT,tT,fF,fF,tT,fF,tT,tT,tT],0,[(AX.ret,⟨[(4, .int .i64)],[],57⟩),(AX.normal,⟨[(0, .list 4),(1, .list 4),(6, .map 0),(19, .list 4),(20, .int .i64),(21, .int .i64)],[.map],57⟩)]⟩]
def u8a:List CF:=
 [⟨v86,G67⟩,⟨v7r,G66⟩,⟨u1m,G79⟩,⟨u3r,G81⟩,⟨v84,G80⟩,⟨u1n,G78⟩]
def an35:Anns:=
 ⟨u8a,ja35,[]⟩
def v5k (p:Prim):W37w→Option (W37w⊕(W1w⊕(List (W25w)×W42w))):=
 fun a=>let E:=a.2.2.2.1;let I:=a.2.2.2.2.2.1;let B:=p.nat I;let A:=D.int .i64 (p.rdI E B 0);let G:=[SK.i];let H:=[ci,ci,(CK.list 1),ci];let C:=p.mOk a.1 G Bool.false A Bool.true H;let F:=p.mhas a.1 G Bool.false A; opt.run _ (
 opt.ask _ (p.cmp .lss I a.2.2.2.2.1) (
 opt.alt (W1w) (W37w) _ (
 opt.run ((W1w⊕W37w)) (
 opt.need _ (p.rowOk E B H)<|
 opt.need _ (p.cmp .geq I (0:Int))<|
 opt.need _ C<|
 opt.ask _ F (
 opt.bnd (W4w) _ (G80 p ((p.mI a.1 G Bool.false A 0),((p.mI a.1 G Bool.false A 1),((p.mL a.1 G Bool.false A 2),((p.mI a.1 G Bool.false A 3),((p.rdI E B 0),((p.rdI E B 1),((p.rdL E B 2),((p.rdI E B 3),()))))))))) fun b=>
 opt.ask _ (bif b.1 then Bool.false else Bool.true) (
 opt.ret _ (Sum.inl ((15:Int),()))) (
 opt.need _ C<|
 opt.ask _ F (
 opt.ret _ (Sum.inr ((p.mdel a.1 (p.nat (p.ofNat (p.mpos a.1 G Bool.false A)))),a.2))) (
 opt.ret _ (Sum.inr a)))) (
 opt.ret _ (Sum.inl ((15:Int),()))))) (fun c=>
 opt.ret _ (Sum.inr (Sum.inl c))) (fun d=>
 opt.bnd (W37w) _ (some d) fun e=>
 opt.ret _ (Sum.inl (e.1,(e.2.1,(e.2.2.1,(e.2.2.2.1,(e.2.2.2.2.1,((p.ar .add .i64 e.2.2.2.2.2.1 (1:Int)),()))))))))) (
 opt.ret _ (Sum.inr (Sum.inr (a.1,(a.2.1,(a.2.2.1,())))))))
def G35:(p:Prim)→W42w→Option (W1w):=
 fun p x=>let F:=(0:Int);
 opt.bnd (W1w) _ (G78 p x) fun a=>
 opt.ask _ (p.cmp .neq a.1 F) (
 opt.ret _ a) (
 opt.bnd (W50w) _ (G79 p x.2) fun b=>
 opt.alt (W1w) ((List (W25w)×W42w)) _ (
 z5q (v5k p) (b.1,(x.1,(x.2.1,(x.1,((p.ofNat (p.len x.1)),(F,()))))))) (fun c=>
 opt.ret _ c) (fun d=>
 opt.bnd ((List (W25w)×W42w)) _ (some d) fun e=>
 opt.ask _ (p.cmp .gtr (p.ofNat (p.mlen e.1)) F) (
 opt.ret _ ((15:Int),())) (
 opt.bnd (W3w) _ (G66 p ([[(D.list Bool.false 4 e.2.1)]],())) fun f=>let B:=p.len f.2.2.1;
 opt.need _ (p.eqN 0 0)<|
 opt.need _ (p.eqN B B)<|
 opt.need _ (p.eqN B B)<|
 opt.bnd (W12w) _ (G67 p f) fun g=>let E:=p.len g.2.2.2.1;
 opt.bnd (W3w) _ (G66 p ([[(D.list Bool.false 4 e.2.2.1)]],())) fun h=>let A:=p.len h.2.2.1;
 opt.need _ (p.eqN 0 0)<|
 opt.need _ (p.eqN A A)<|
 opt.need _ (p.eqN A A)<|
 opt.bnd (W12w) _ (G67 p h) fun i=>let C:=p.len i.2.2.2.1;
 opt.need _ (p.and (p.leN (p.add 0 E) E) (p.and (p.leN (p.add 0 C) C) (p.and (p.and Bool.true Bool.true) Bool.true)))<|
 opt.bnd (W4w) _ (G81 p ((p.cut g.2.2.2.1 0 E),((p.cut i.2.2.2.1 0 C),()))) fun j=>
 opt.ask _ (bif j.1 then Bool.false else Bool.true) (
 opt.ret _ ((24:Int),())) (
 opt.ret _ (F,())))))
theorem ok35:CtrOk PG u4c (G35 std):=okF vD (a:=an35) (l:=la35) (gC u5s (gC u5h (gC u9d (gC ok81 (gC u5q (gC u9e (gN)))))))
end Go.Am
end
noncomputable section
namespace Go.Am
def u3v:Ctr:=
 ⟨70,[.bptr 0 0],q23m,[(.ret,⟨[(0, .tuple [])],q23m,1⟩)]⟩
def la70:List LA:=
 [⟨70,[fF,tT],4,⟨⟨[(0, .bptr 0 0),(8, .int .i64),(9, .int .i64)],q23m,52⟩,[((AX.exit 0),⟨[],q23m,52⟩)]⟩⟩,
 ⟨70,[fF,tT,tT,fF,fF,tT,tT,fF,fF,tT],4,⟨⟨[(0, .bptr 0 0),(2, .int .i64),(8, .int .i64),(9, .int .i64),(16, .int .i64),(17, .int .i64)],q23m,52⟩,[((AX.exit 2),⟨[(0, .bptr 0 0),(8, .int .i64),(9, .int .i64)],q23m,52⟩)]⟩⟩]
def ja70:List JA:=
 [⟨70,[tT,tT,fF,fF,tT,tT,fF,fF,tT,tT,fF,fF,tT,tT,fF,fF,tT],4,[(AX.normal,⟨[(0, .bptr 0 0),(2, .int .i64),(8, .int .i64),(9, .int .i64),(16, .int .i64),(17, .int .i64)],q23m,52⟩)]⟩]
def u7p:List CF:=
 [⟨u3t,G73⟩,⟨v5d,G74⟩]
def an70:Anns:=
 ⟨u7p,ja70,[]⟩
def v6s (p:Prim):W27w→Option (W27w⊕W21w):=
 fun a=>let H:=a.2.2.2.2.2.2.2.2.2.1;let A:=p.add 0 (p.nat H);let I:=a.2.2.1;let C:=p.len I;let B:=bif (p.cmp .geq H (0:Int)) then (p.cmp .lss H (p.ofNat C)) else Bool.false;let L:=CK.int .u64;let F:=p.rowOk I A [L,L];let K:=a.2.2.2.2.2.1;let G:=p.add 0 (p.nat K);let M:=p.eqN C C;let N:=p.eqN 0 0; opt.run _ (
 opt.ask _ (p.cmp .lss H a.2.2.2.2.2.2.2.2.1) (
 opt.need _ B<|
 opt.need _ F<|
 opt.bnd (W4w) _ (G74 p ((p.rdI I A 0),((p.rdI I A 1),(K,())))) fun b=>
 opt.bnd (W27w) _ (
 opt.run (W27w) (
 opt.ask _ b.1 (
 opt.need _ B<|
 opt.need _ F<|
 opt.need _ (bif (p.cmp .geq K (0:Int)) then (p.cmp .lss K (p.ofNat C)) else Bool.false)<|
 opt.need _ (p.rowOk I G [L,L])<|
 opt.bnd (W0w) _ (G73 p ((p.rdI I A 0),((p.rdI I A 1),((p.rdI I G 0),((p.rdI I G 1),()))))) fun c=>let E:=p.set I A [(D.int .u64 c.1),(D.int .u64 c.2.1)];
 opt.need _ B<|
 opt.need _ F<|
 opt.need _ N<|
 opt.need _ (p.eqN C (p.len E))<|
 opt.need _ (p.eqN C (p.len E))<|
 opt.ret _ (a.1,(a.2.1,(E,a.2.2.2)))) (
 opt.need _ N<|
 opt.need _ M<|
 opt.need _ M<|
 opt.ret _ a))) fun d=>let J:=p.len d.2.2.1;
 opt.need _ N<|
 opt.need _ (p.eqN J J)<|
 opt.need _ (p.eqN J J)<|
 opt.ret _ (Sum.inl (d.1,(d.2.1,(d.2.2.1,(d.2.2.2.1,(d.2.2.2.2.1,(d.2.2.2.2.2.1,(d.2.2.2.2.2.2.1,(d.2.2.2.2.2.2.2.1,(d.2.2.2.2.2.2.2.2.1,((p.ar .add .i64 d.2.2.2.2.2.2.2.2.2.1 (1:Int)),())))))))))))) (
 opt.need _ N<|
 opt.need _ M<|
 opt.need _ M<|
 opt.ret _ (Sum.inr (a.1,(a.2.1,(I,(a.2.2.2.1,(a.2.2.2.2.1,(a.2.2.2.2.2.2.1,(a.2.2.2.2.2.2.2.1,()))))))))))
def v72 (p:Prim):W21w→Option (W21w⊕W3w):=
 fun a=>let A:=p.eqN (p.len a.2.2.1) (p.len a.2.2.1);let C:=a.2.2.2.2.2.2.1; opt.run _ (
 opt.ask _ (p.cmp .lss C a.2.2.2.2.2.1) (
 opt.need _ (p.eqN 0 0)<|
 opt.need _ A<|
 opt.need _ A<|
 opt.bnd (W21w) _ (
 z5q (v6s p) (a.1,(a.2.1,(a.2.2.1,(a.2.2.2.1,(a.2.2.2.2.1,(C,(a.2.2.2.2.2.1,(C,((p.ofNat a.2.2.2.2.1),((0:Int),()))))))))))) fun b=>let B:=p.len b.2.2.1;
 opt.need _ (p.eqN 0 0)<|
 opt.need _ (p.eqN B B)<|
 opt.need _ (p.eqN B B)<|
 opt.ret _ (Sum.inl (b.1,(b.2.1,(b.2.2.1,(b.2.2.2.1,(b.2.2.2.2.1,(b.2.2.2.2.2.1,((p.ar .add .i64 b.2.2.2.2.2.2.1 (1:Int)),()))))))))) (
 opt.need _ (p.eqN 0 0)<|
 opt.need _ A<|
 opt.need _ A<|
 opt.ret _ (Sum.inr (a.1,(a.2.1,(a.2.2.1,(a.2.2.2.1,(a.2.2.2.2.1,()))))))))
def G70:(p:Prim)→W3w→Option (W3w):=
 fun p x=>let A:=p.len x.2.2.1;
 opt.need _ (p.eqN 0 0)<|
 opt.need _ (p.eqN A A)<|
 opt.need _ (p.eqN A A)<|
 opt.bnd (W3w) _ (
 z5q (v72 p) (x.1,(x.2.1,(x.2.2.1,(x.2.2.2.1,(x.2.2.2.2.1,((p.ofNat x.2.2.2.2.1),((0:Int),())))))))) fun a=>let B:=p.len a.2.2.1;
 opt.need _ (p.eqN 0 0)<|
 opt.need _ (p.eqN B B)<|
 opt.need _ (p.eqN B B)<|
 opt.ret _ a
theorem ok70:CtrOk PG u3v (G70 std):=okF vE (a:=an70) (l:=la70) (gC ok73 (gC u2i (gN)))
def u3p:Ctr:=
 ⟨91,[.bptr 0 0],q23m,[(.ret,⟨[(0, .bool)],q23m,1⟩)]⟩
def la91:List LA:=
 [⟨91,[fF,tT,fF,tT],4,⟨⟨[(8, .full 3 2),(9, .int .i64),(10, .int .i64)],q23m,19⟩,[(AX.ret,⟨[(2, .bool)],q23m,19⟩),((AX.exit 0),⟨[],q23m,19⟩)]⟩⟩]
def ja91:List JA:=
 []
def u7c:List CF:=
 [⟨v5d,G74⟩]
def an91:Anns:=
 ⟨u7c,ja91,[]⟩
def v6q (p:Prim):W21w→Option (W21w⊕(W34w⊕W3w)):=
 fun a=>let C:=a.2.2.1;let A:=p.eqN (p.len C) (p.len C);let B:=a.2.2.2.2.2.2.1;let E:=p.add 0 (p.nat B);let F:=p.eqN 0 0; opt.run _ (
 opt.ask _ (p.cmp .lss B a.2.2.2.2.2.1) (
 opt.need _ (bif (p.cmp .geq B (0:Int)) then (p.cmp .lss B (p.ofNat (p.len C))) else Bool.false)<|
 opt.need _ (p.rowOk C E [(CK.int .u64),(CK.int .u64)])<|
 opt.bnd (W4w) _ (G74 p ((p.rdI C E 0),((p.rdI C E 1),a.2.2.2.2.2.2))) fun b=>
 opt.ask _ b.1 (
 opt.need _ F<|
 opt.need _ A<|
 opt.need _ A<|
 opt.ret _ (Sum.inr (Sum.inl (a.1,(a.2.1,(C,(a.2.2.2.1,(a.2.2.2.2.1,(Bool.true,()))))))))) (
 opt.need _ F<|
 opt.need _ A<|
 opt.need _ A<|
 opt.need _ F<|
 opt.need _ A<|
 opt.need _ A<|
 opt.ret _ (Sum.inl (a.1,(a.2.1,(C,(a.2.2.2.1,(a.2.2.2.2.1,(a.2.2.2.2.2.1,((p.ar .add .i64 B (1:Int)),())))))))))) (
 opt.need _ F<|
 opt.need _ A<|
 opt.need _ A<|
 opt.ret _ (Sum.inr (Sum.inr (a.1,(a.2.1,(C,(a.2.2.2.1,(a.2.2.2.2.1,())))))))))
def G91:(p:Prim)→W3w→Option (W34w):=
 fun p x=>let F:=p.len x.2.2.1;let A:=p.eqN F F;let E:=p.eqN 0 0;
 opt.need _ E<|
 opt.need _ A<|
 opt.need _ A<|
 opt.need _ E<|
 opt.need _ A<|
 opt.need _ A<|
 opt.alt (W34w) (W3w) _ (
 z5q (v6q p) (x.1,(x.2.1,(x.2.2.1,(x.2.2.2.1,(x.2.2.2.2.1,((p.ofNat F),((0:Int),())))))))) (fun a=>let C:=p.len a.2.2.1;
 opt.need _ E<|
 opt.need _ (p.eqN C C)<|
 opt.need _ (p.eqN C C)<|
 opt.ret _ a) (fun b=>
 opt.bnd (W3w) _ (some b) fun c=>let B:=p.len c.2.2.1;
 opt.need _ E<|
 opt.need _ (p.eqN B B)<|
 opt.need _ (p.eqN B B)<|
 opt.ret _ (c.1,(c.2.1,(c.2.2.1,(c.2.2.2.1,(c.2.2.2.2.1,(Bool.false,())))))))
theorem ok91:CtrOk PG u3p (G91 std):=okF vE (a:=an91) (l:=la91) (gC u2i (gN))
end Go.Am
end
noncomputable section
namespace Go.Am
def u4a:Ctr:=
 ⟨46,[.list 4, .list 4],[],[(.ret,⟨[(0, .tuple [.vec 0 4, .int .i64])],[q8m],1⟩)]⟩
def la46:List LA:=
 [⟨46,[fF,tT,fF,tT,tT,tT,tT,tT,tT],0,⟨⟨[(7, .bptr 0 0),(35, .sl 1 4),(36, .int .i64),(37, .int .i64)],q23m,86⟩,[(AX.ret,⟨[(4, .nils),(5, .int .i64)],[],86⟩),((AX.exit 0),⟨[(7, .bptr 0 0)],q23m,86⟩)]⟩⟩,
 ⟨46,[fF,tT,tT,fF,fF,tT,tT,fF,fF,tT,fF,tT,tT,tT,tT,tT,tT],0,⟨⟨[(7, .bptr 0 0),(8, .int .i64),(9, .bptr 1 0),(35, .sl 2 4),(36, .int .i64),(37, .int .i64),(48, .slc 2 4),(49, .int .i64),(50, .int .i64)],[q3m,q0m,q8m, .map,q1m],86⟩,[(AX.ret,⟨[(4, .nils),(5, .int .i64)],[],86⟩),((AX.exit 2),⟨[(7, .bptr 0 0),(35, .sl 1 4),(36, .int .i64),(37, .int .i64)],q23m,86⟩)]⟩⟩]
def ja46:List JA:=
 [⟨46,[fF,tT,fF,fF,tT,tT,fF,fF,tT,tT,fF,fF,tT,tT,fF,fF,tT,fF,tT,tT,tT,tT,tT,tT],0,[(AX.normal,⟨[(7, .bptr 0 0),(8, .int .i64),(9, .bptr 1 0),(35, .sl 2 4),(36, .int .i64),(37, .int .i64),(48, .slc 2 4),(49, .int .i64),(50, .int .i64),(81, .bool)],[q3m,q0m,q8m, .map,q1m],86⟩)]⟩]
def u7w:List CF:=
 [⟨v86,G67⟩,⟨u3p,G91⟩,⟨u3v,G70⟩,⟨v7r,G66⟩,⟨v5d,G74⟩,⟨u1l,G92⟩,⟨v83,G90⟩]
def an46:Anns:=
 ⟨u7w,ja46,[]⟩
def v4g (p:Prim):W31w→Option (W31w⊕(W1w⊕W20w)):=
 fun a=>let A:=a.2.2.2.2.2.2.2.2.2.2.2.2.2.2.2.2.2.2.1;let I:=a.2.2.1;let Y:=a.2.2.2.2.2.1;let X:=a.2.2.2.2.2.2.1;let V:=a.2.2.2.2.2.2.2.1;let Q:=a.2.2.2.2.2.2.2.2.1;let F:=a.2.2.2.2.2.2.2.2.2.1;let N:=a.2.2.2.2.2.2.2.2.2.2.1;let M:=a.2.2.2.2.2.2.2.2.2.2.2.1;let L:=a.2.2.2.2.2.2.2.2.2.2.2.2.1;let K:=a.2.2.2.2.2.2.2.2.2.2.2.2.2.1;let J:=a.2.2.2.2.2.2.2.2.2.2.2.2.2.2.1;let H:=a.2.2.2.2.2.2.2.2.2.2.2.2.2.2.2.1;let T:=a.2.2.2.2.2.2.2.2.2.2.2.2.2.2.2.2.1;let G:=a.2.2.2.2.2.2.2.2.2.2.2.2.2.2.2.2.2.1;let B:=(a.1,(a.2.1,(I,(a.2.2.2.1,(a.2.2.2.2.1,(Y,(X,(V,(Q,(F,(N,(M,(L,(K,(J,(H,(T,(G,(A,(Bool.false,()))))))))))))))))))));let A1:=p.len I;let C:=p.eqN A1 A1;let E:=p.add J (p.nat A);let P:=p.eqN 0 0;let R:=p.add 0 (p.nat F);let S:=p.add 0 (p.nat A);let U:=CK.int .u64;let Z:=p.cmp .geq A (0:Int); opt.run _ (
 opt.ask _ (p.cmp .lss A G) (
 opt.need _ (bif Z then (p.cmp .lss A (p.ofNat H)) else Bool.false)<|
 opt.need _ (p.rowOk a.1 E [ci,ci,(CK.list 1),ci])<|
 opt.bnd (W28w) _ (
 opt.run (W28w) (
 opt.bnd (W4w) _ (G92 p (Y,(X,(V,(Q,((p.rdI a.1 E 0),((p.rdI a.1 E 1),((p.rdL a.1 E 2),((p.rdI a.1 E 3),()))))))))) fun b=>
 opt.ask _ b.1 (
 opt.need _ (bif (p.cmp .geq F (0:Int)) then (p.cmp .lss F (p.ofNat A1)) else Bool.false)<|
 opt.need _ (p.rowOk I R [U,U])<|
 opt.bnd (W4w) _ (G74 p ((p.rdI I R 0),((p.rdI I R 1),a.2.2.2.2.2.2.2.2.2.2.2.2.2.2.2.2.2.2))) fun c=>
 opt.ask _ (bif c.1 then Bool.false else Bool.true) (
 opt.need _ (bif Z then (p.cmp .lss A (p.ofNat A1)) else Bool.false)<|
 opt.need _ (p.rowOk I S [U,U])<|
 opt.bnd (W4w) _ (G74 p ((p.rdI I S 0),((p.rdI I S 1),(F,())))) fun d=>
 opt.need _ P<|
 opt.need _ C<|
 opt.need _ C<|
 opt.ret _ (a.1,(a.2.1,(I,(a.2.2.2.1,(a.2.2.2.2.1,(Y,(X,(V,(Q,(F,(N,(M,(L,(K,(J,(H,(T,(G,(A,((bif d.1 then Bool.false else Bool.true),()))))))))))))))))))))) (
 opt.need _ P<|
 opt.need _ C<|
 opt.need _ C<|
 opt.ret _ B)) (
 opt.need _ P<|
 opt.need _ C<|
 opt.need _ C<|
 opt.ret _ B))) fun e=>let O:=p.len e.2.2.1;
 opt.ask _ e.2.2.2.2.2.2.2.2.2.2.2.2.2.2.2.2.2.2.2.1 (
 opt.ret _ (Sum.inr (Sum.inl ((16:Int),())))) (
 opt.need _ P<|
 opt.need _ (p.eqN O O)<|
 opt.need _ (p.eqN O O)<|
 opt.ret _ (Sum.inl (e.1,(e.2.1,(e.2.2.1,(e.2.2.2.1,(e.2.2.2.2.1,(e.2.2.2.2.2.1,(e.2.2.2.2.2.2.1,(e.2.2.2.2.2.2.2.1,(e.2.2.2.2.2.2.2.2.1,(e.2.2.2.2.2.2.2.2.2.1,(e.2.2.2.2.2.2.2.2.2.2.1,(e.2.2.2.2.2.2.2.2.2.2.2.1,(e.2.2.2.2.2.2.2.2.2.2.2.2.1,(e.2.2.2.2.2.2.2.2.2.2.2.2.2.1,(e.2.2.2.2.2.2.2.2.2.2.2.2.2.2.1,(e.2.2.2.2.2.2.2.2.2.2.2.2.2.2.2.1,(e.2.2.2.2.2.2.2.2.2.2.2.2.2.2.2.2.1,(e.2.2.2.2.2.2.2.2.2.2.2.2.2.2.2.2.2.1,((p.ar .add .i64 e.2.2.2.2.2.2.2.2.2.2.2.2.2.2.2.2.2.2.1 (1:Int)),())))))))))))))))))))))) (
 opt.need _ P<|
 opt.need _ C<|
 opt.need _ C<|
 opt.ret _ (Sum.inr (Sum.inr (a.1,(a.2.1,(I,(a.2.2.2.1,(a.2.2.2.2.1,(N,(M,(L,(K,())))))))))))))
def v6x (p:Prim):W20w→Option (W20w⊕(W1w⊕W3w)):=
 fun a=>let A:=a.2.2.2.2.2.2.2.2.1;let B:=p.add a.2.2.2.2.2.1 (p.nat A);let C:=p.eqN (p.len a.2.2.1) (p.len a.2.2.1);let F:=(0:Int);let E:=p.sub (p.nat A) (p.nat F); opt.run _ (
 opt.ask _ (p.cmp .lss A a.2.2.2.2.2.2.2.1) (
 opt.need _ (bif (p.cmp .geq A F) then (p.cmp .lss A (p.ofNat a.2.2.2.2.2.2.1)) else Bool.false)<|
 opt.need _ (p.rowOk a.1 B [ci,ci,(CK.list 1),ci])<|
 opt.need _ (p.and (p.cmp .geq F F) (p.and (p.cmp .leq F A) (p.and (p.cmp .leq A A) (p.cmp .leq A (p.ofNat a.2.2.2.2.1)))))<|
 opt.need _ (p.eqN 0 0)<|
 opt.need _ C<|
 opt.need _ C<|
 opt.alt (W1w) (W20w) _ (
 z5q (v4g p) (a.1,(a.2.1,(a.2.2.1,(a.2.2.2.1,(a.2.2.2.2.1,((p.rdI a.1 B 0),((p.rdI a.1 B 1),((p.rdL a.1 B 2),((p.rdI a.1 B 3),(A,(a.2.2.2.2.2.1,(a.2.2.2.2.2.2.1,(a.2.2.2.2.2.2.2.1,(A,((p.add a.2.2.2.1 (p.nat F)),(E,(E,((p.ofNat E),(F,())))))))))))))))))))) (fun b=>
 opt.ret _ (Sum.inr (Sum.inl b))) (fun c=>
 opt.bnd (W20w) _ (some c) fun d=>let G:=p.len d.2.2.1;
 opt.need _ (p.eqN 0 0)<|
 opt.need _ (p.eqN G G)<|
 opt.need _ (p.eqN G G)<|
 opt.ret _ (Sum.inl (d.1,(d.2.1,(d.2.2.1,(d.2.2.2.1,(d.2.2.2.2.1,(d.2.2.2.2.2.1,(d.2.2.2.2.2.2.1,(d.2.2.2.2.2.2.2.1,((p.ar .add .i64 d.2.2.2.2.2.2.2.2.1 (1:Int)),())))))))))))) (
 opt.need _ (p.eqN 0 0)<|
 opt.need _ C<|
 opt.need _ C<|
 opt.ret _ (Sum.inr (Sum.inr (a.1,(a.2.1,(a.2.2.1,(a.2.2.2.1,(a.2.2.2.2.1,())))))))))
def G46:(p:Prim)→W42w→Option (W18w):=
 fun p x=>let F:=p.eqN 0 0;
 opt.bnd (W1w) _ (G90 p x) fun a=>
 opt.ask _ (p.cmp .neq a.1 (0:Int)) (
 opt.ret _ ([],a)) (
 opt.bnd (W3w) _ (G66 p ([[(D.list Bool.false 4 x.1)],[(D.list Bool.false 4 x.2.1)]],())) fun b=>let E:=p.len b.2.2.1;
 opt.ask _ (p.cmp .gtr (p.ofNat b.2.2.2.2.1) (60:Int)) (
 opt.ret _ ([],((6:Int),()))) (
 opt.need _ F<|
 opt.need _ (p.eqN E E)<|
 opt.need _ (p.eqN E E)<|
 opt.bnd (W3w) _ (G70 p b) fun c=>let C:=p.len c.2.2.1;
 opt.need _ F<|
 opt.need _ (p.eqN C C)<|
 opt.need _ (p.eqN C C)<|
 opt.bnd (W34w) _ (G91 p c) fun d=>let B:=p.len d.2.2.1;
 opt.ask _ d.2.2.2.2.2.1 (
 opt.ret _ ([],((24:Int),()))) (
 opt.need _ F<|
 opt.need _ (p.eqN B B)<|
 opt.need _ (p.eqN B B)<|
 opt.alt (W1w) (W3w) _ (
 z5q (v6x p) (d.1,(d.2.1,(d.2.2.1,(d.2.2.2.1,(d.2.2.2.2.1,(d.2.2.2.1,(d.2.2.2.2.1,((p.ofNat d.2.2.2.2.1),((0:Int),())))))))))) (fun e=>
 opt.ret _ ([],e)) (fun f=>
 opt.bnd (W3w) _ (some f) fun g=>let A:=p.len g.2.2.1;
 opt.need _ F<|
 opt.need _ (p.eqN A A)<|
 opt.need _ (p.eqN A A)<|
 opt.bnd (W12w) _ (G67 p g) fun h=>
 opt.need _ F<|
 opt.need _ (p.eqN (p.len h.2.2.2.1) (p.len h.2.2.2.1))<|
 opt.ret _ (h.2.2.2.1,((0:Int),()))))))
theorem ok46:CtrOk PG u4a (G46 std):=okF vD (a:=an46) (l:=la46) (gC u5s (gC ok91 (gC ok70 (gC u5h (gC u2i (gC u9c (gC u5p (gN))))))))
end Go.Am
end
noncomputable section
namespace Go.Am
def u3m:Ctr:=
 ⟨99,[.agg [.int .i64, .int .i64, .list 1, .int .i64], .bptr 0 0, .bptr 1 0],q17m,[(.ret,⟨[(0, .bool)],q17m,1⟩)]⟩
def la99:List LA:=
 []
def ja99:List JA:=
 []
def u6y:List CF:=
 [⟨v5d,G74⟩]
def an99:Anns:=
 ⟨u6y,ja99,[]⟩
def G99:(p:Prim)→(LD×(List (W25w)×(LD×(Int×(Int×(Nat×(Nat×W26w)))))))→Option (W53w):=
 fun p x=>let A:=p.eqN (p.len x.2.2.1) (p.len x.2.2.1);let B:=D.int .i64 x.2.2.2.2.2.2.2.1;let C:=x.2.2.2.2.1;let E:=x.2.2.2.1;
 opt.need _ (p.mOk x.2.1 [SK.i] Bool.false B Bool.false [ci])<|
 opt.ask _ (p.mhas x.2.1 [SK.i] Bool.false B) (
 opt.bnd (W4w) _ (G74 p (E,(C,((p.mI x.2.1 [SK.i] Bool.false B 0),())))) fun a=>
 opt.need _ (p.eqN 0 0)<|
 opt.need _ A<|
 opt.need _ A<|
 opt.ret _ (x.1,(x.2.1,(x.2.2.1,(E,(C,(x.2.2.2.2.2.1,(x.2.2.2.2.2.2.1,((bif a.1 then Bool.false else Bool.true),()))))))))) (
 opt.bnd (W4w) _ (G74 p (E,(C,((0:Int),())))) fun b=>
 opt.need _ (p.eqN 0 0)<|
 opt.need _ A<|
 opt.need _ A<|
 opt.ret _ (x.1,(x.2.1,(x.2.2.1,(E,(C,(x.2.2.2.2.2.1,(x.2.2.2.2.2.2.1,((bif b.1 then Bool.false else Bool.true),())))))))))
theorem ok99:CtrOk PG u3m (G99 std):=okF vD (a:=an99) (l:=la99) (gC u2i (gN))
def u3n:Ctr:=
 ⟨98,[.sl 0 4, .clo 99 [] [.bptr 1 0, .bptr 2 0]],q21m,[(.ret,⟨[(0, .int .i64)],q21m,1⟩)]⟩
def la98:List LA:=
 [⟨98,[fF,tT,fF,tT],6,⟨⟨[(0, .sl 0 4),(1, .clo 99 [] [.bptr 1 0, .bptr 2 0]),(7, .int .i64),(8, .int .i64)],q21m,19⟩,[(AX.ret,⟨[(4, .int .i64)],q21m,19⟩),((AX.exit 0),⟨[],q21m,19⟩)]⟩⟩]
def ja98:List JA:=
 []
def u6z:List CF:=
 [⟨u3m,G99⟩]
def an98:Anns:=
 ⟨u6z,ja98,[]⟩
def v6p (p:Prim):W56w→Option (W56w⊕(W7w⊕W19w)):=
 fun a=>let E:=a.2.2.2.2.2.2.2.2.2.2.1;let A:=p.add a.2.2.2.2.2.2.2.1 (p.nat E);let C:=p.eqN (p.len a.2.2.1) (p.len a.2.2.1);let F:=p.eqN 0 0; opt.run _ (
 opt.ask _ (p.cmp .lss E a.2.2.2.2.2.2.2.2.2.1) (
 opt.need _ (bif (p.cmp .geq E (0:Int)) then (p.cmp .lss E (p.ofNat a.2.2.2.2.2.2.2.2.1)) else Bool.false)<|
 opt.need _ (p.rowOk a.1 A [ci,ci,(CK.list 1),ci])<|
 opt.need _ F<|
 opt.need _ C<|
 opt.need _ C<|
 opt.bnd (W53w) _ (G99 p (a.1,(a.2.1,(a.2.2.1,(a.2.2.2.1,(a.2.2.2.2.1,(a.2.2.2.2.2.1,(a.2.2.2.2.2.2.1,((p.rdI a.1 A 0),((p.rdI a.1 A 1),((p.rdL a.1 A 2),((p.rdI a.1 A 3),())))))))))))) fun b=>let B:=p.eqN (p.len b.2.2.1) (p.len b.2.2.1);
 opt.ask _ b.2.2.2.2.2.2.2.1 (
 opt.need _ F<|
 opt.need _ B<|
 opt.need _ B<|
 opt.ret _ (Sum.inr (Sum.inl (b.1,(b.2.1,(b.2.2.1,(b.2.2.2.1,(b.2.2.2.2.1,(b.2.2.2.2.2.1,(b.2.2.2.2.2.2.1,a.2.2.2.2.2.2.2.2.2.2)))))))))) (
 opt.need _ F<|
 opt.need _ B<|
 opt.need _ B<|
 opt.ret _ (Sum.inl (b.1,(b.2.1,(b.2.2.1,(b.2.2.2.1,(b.2.2.2.2.1,(b.2.2.2.2.2.1,(b.2.2.2.2.2.2.1,(a.2.2.2.2.2.2.2.1,(a.2.2.2.2.2.2.2.2.1,(a.2.2.2.2.2.2.2.2.2.1,((p.ar .add .i64 E (1:Int)),())))))))))))))) (
 opt.need _ F<|
 opt.need _ C<|
 opt.need _ C<|
 opt.ret _ (Sum.inr (Sum.inr (a.1,(a.2.1,(a.2.2.1,(a.2.2.2.1,(a.2.2.2.2.1,(a.2.2.2.2.2.1,(a.2.2.2.2.2.2.1,())))))))))))
def G98:(p:Prim)→(LD×(List (W25w)×(LD×(Int×(Int×(Nat×(Nat×W46w)))))))→Option (W7w):=
 fun p x=>let A:=p.len x.2.2.1;
 opt.need _ (p.eqN 0 0)<|
 opt.need _ (p.eqN A A)<|
 opt.need _ (p.eqN A A)<|
 opt.alt (W7w) (W19w) _ (
 z5q (v6p p) (x.1,(x.2.1,(x.2.2.1,(x.2.2.2.1,(x.2.2.2.2.1,(x.2.2.2.2.2.1,(x.2.2.2.2.2.2.1,(x.2.2.2.2.2.2.2.1,(x.2.2.2.2.2.2.2.2.1,((p.ofNat x.2.2.2.2.2.2.2.2.1),((0:Int),())))))))))))) (fun a=>let C:=p.len a.2.2.1;
 opt.need _ (p.eqN 0 0)<|
 opt.need _ (p.eqN C C)<|
 opt.need _ (p.eqN C C)<|
 opt.ret _ a) (fun b=>
 opt.bnd (W19w) _ (some b) fun c=>let B:=p.len c.2.2.1;
 opt.need _ (p.eqN 0 0)<|
 opt.need _ (p.eqN B B)<|
 opt.need _ (p.eqN B B)<|
 opt.ret _ (c.1,(c.2.1,(c.2.2.1,(c.2.2.2.1,(c.2.2.2.2.1,(c.2.2.2.2.2.1,(c.2.2.2.2.2.2.1,((-1:Int),())))))))))
theorem ok98:CtrOk PG u3n (G98 std):=okF vD (a:=an98) (l:=la98) (gC ok99 (gN))
def u0d:Ctr:=
 ⟨100,[.slc 0 1],[q16m],[(.ret,⟨[(0, .tuple [])],[q16m],1⟩)]⟩
def u6m:List LA:=
 [⟨100,[fF,tT],1,⟨⟨[(0, .slc 0 1),(2, .int .i64),(3, .int .i64)],[q16m],28⟩,[((AX.exit 0),⟨[],[q16m],28⟩)]⟩⟩]
def u6x:List JA:=
 []
def u3l:List CF:=
 []
def u8v:Anns:=
 ⟨u3l,u6x,[]⟩
def u4i (p:Prim):(LD×W38w)→Option ((LD×W38w)⊕W14w):=
 fun a=>let F:=a.2.2.2.2.2.1;let A:=p.add a.2.1 (p.nat F);let H:=a.2.2.2.2.1;let B:=p.add a.2.1 (p.nat H);let C:=bif (p.cmp .geq F (0:Int)) then (p.cmp .lss F (p.ofNat a.2.2.1)) else Bool.false;let E:=bif (p.cmp .geq H (0:Int)) then (p.cmp .lss H (p.ofNat a.2.2.1)) else Bool.false;let G:=p.set a.1 B [(D.int .i64 (p.rdI a.1 A 0))]; opt.run _ (
 opt.ask _ (p.cmp .lss H F) (
 opt.need _ C<|
 opt.need _ (p.rowOk a.1 A [ci])<|
 opt.need _ E<|
 opt.need _ (p.rowOk a.1 B [ci])<|
 opt.need _ E<|
 opt.need _ (p.rowOk a.1 B [ci])<|
 opt.need _ C<|
 opt.need _ (p.rowOk G A [ci])<|
 opt.ret _ (Sum.inl ((p.set G A [(D.int .i64 (p.rdI a.1 B 0))]),(a.2.1,(a.2.2.1,(a.2.2.2.1,((p.ar .add .i64 H (1:Int)),((p.ar .sub .i64 F (1:Int)),())))))))) (
 opt.ret _ (Sum.inr (a.1,()))))
def u9i:(p:Prim)→(LD×(Nat×W46w))→Option (W14w):=
 fun p x=>
 opt.bnd (W14w) _ (
 z5q (u4i p) (x.1,(x.2.1,(x.2.2.1,(x.2.2.2.1,((0:Int),((p.ar .sub .i64 (p.ofNat x.2.2.1) (1:Int)),()))))))) fun a=>
 opt.ret _ a
theorem u6b:CtrOk PG u0d (u9i std):=okF vD (a:=u8v) (l:=u6m) (gN)
def v52:Ctr:=
 ⟨100,[.vec 0 1],[q16m],[(.ret,⟨[(0, .tuple [])],[q16m],1⟩)]⟩
def u1f:List LA:=
 [⟨100,[fF,tT],1,⟨⟨[(0, .vec 0 1),(2, .int .i64),(3, .int .i64)],[q16m],28⟩,[((AX.exit 0),⟨[],[q16m],28⟩)]⟩⟩]
def u1j:List JA:=
 []
def v80:List CF:=
 []
def u1w:Anns:=
 ⟨v80,u1j,[]⟩
def v2z (p:Prim):W13w→Option (W13w⊕W14w):=
 fun a=>let F:=p.add 0 (p.nat a.2.1);let H:=a.2.2.1;let E:=p.add 0 (p.nat H);let A:=p.set a.1 F [(D.int .i64 (p.rdI a.1 E 0))];let B:=bif (p.cmp .geq H (0:Int)) then (p.cmp .lss H (p.ofNat (p.len a.1))) else Bool.false;let C:=bif (p.cmp .geq a.2.1 (0:Int)) then (p.cmp .lss a.2.1 (p.ofNat (p.len a.1))) else Bool.false;let G:=p.set A E [(D.int .i64 (p.rdI a.1 F 0))]; opt.run _ (
 opt.ask _ (p.cmp .lss a.2.1 H) (
 opt.need _ B<|
 opt.need _ (p.rowOk a.1 E [ci])<|
 opt.need _ C<|
 opt.need _ (p.rowOk a.1 F [ci])<|
 opt.need _ C<|
 opt.need _ (p.rowOk a.1 F [ci])<|
 opt.need _ B<|
 opt.need _ (p.rowOk A E [ci])<|
 opt.need _ (p.eqN 0 0)<|
 opt.need _ (p.eqN (p.len a.1) (p.len G))<|
 opt.ret _ (Sum.inl (G,((p.ar .add .i64 a.2.1 (1:Int)),((p.ar .sub .i64 H (1:Int)),()))))) (
 opt.ret _ (Sum.inr (a.1,()))))
def v3a:(p:Prim)→W14w→Option (W14w):=
 fun p x=>
 opt.need _ (p.eqN 0 0)<|
 opt.need _ (p.eqN (p.len x.1) (p.len x.1))<|
 opt.bnd (W14w) _ (
 z5q (v2z p) (x.1,((0:Int),((p.ar .sub .i64 (p.ofNat (p.len x.1)) (1:Int)),())))) fun a=>
 opt.ret _ a
theorem u0x:CtrOk PG v52 (v3a std):=okF vD (a:=u1w) (l:=u1f) (gN)
def u3z:Ctr:=
 ⟨48,[.list 4, .list 4],[],[(.ret,⟨[(0, .tuple [.sl 0 1, .int .i64])],[q16m],1⟩)]⟩
def la48:List LA:=
 [⟨48,[fF,tT,fF,tT,tT,tT,fF,tT],0,⟨⟨[(7, .bptr 0 0),(8, .bptr 1 0),(9, .bptr 2 0)],q19m,115⟩,[((AX.exit 0),⟨[(7, .bptr 0 0),(8, .bptr 1 0)],[.box [.bptr 2 0],q10m,q4m,q8m, .map,q1m],115⟩)]⟩⟩,
 ⟨131,[fF,tT],10,⟨⟨[(0, .yld 9),(2, .bptr 8 0),(9, .full 6 2),(10, .int .i64),(11, .int .i64)],[q13m,q10m,q15m,q6m,q8m, .map,q1m,q13m,q10m, .loop Go.LoopState.ready Option.none 48 [Bool.false,Bool.true,Bool.true,Bool.false,Bool.false,Bool.true,Bool.false,Bool.false,Bool.true,Bool.false,Bool.true,Bool.true,Bool.true,Bool.false,Bool.true] 115 [(31, .clo 131 [] [.bptr 7 0, .bptr 8 0]),(7, .bptr 0 0),(8, .bptr 1 0),(9, .bptr 2 0)]],34⟩,[(AX.ret,⟨[],[q13m,q10m,q15m,q6m,q8m, .map,q1m,q13m,q10m, .loop Go.LoopState.done (Option.some (Go.Code.exit 2)) 48 [Bool.false,Bool.true,Bool.true,Bool.false,Bool.false,Bool.true,Bool.false,Bool.false,Bool.true,Bool.false,Bool.true,Bool.true,Bool.true,Bool.false,Bool.true] 115 [(31, .clo 131 [] [.bptr 7 0, .bptr 8 0]),(7, .bptr 0 0),(8, .bptr 1 0),(9, .bptr 2 0)]],34⟩),((AX.exit 0),⟨[],[q13m,q10m,q15m,q6m,q8m, .map,q1m,q13m,q10m, .loop Go.LoopState.ready Option.none 48 [Bool.false,Bool.true,Bool.true,Bool.false,Bool.false,Bool.true,Bool.false,Bool.false,Bool.true,Bool.false,Bool.true,Bool.true,Bool.true,Bool.false,Bool.true] 115 [(31, .clo 131 [] [.bptr 7 0, .bptr 8 0]),(7, .bptr 0 0),(8, .bptr 1 0),(9, .bptr 2 0)]],34⟩)]⟩⟩,
 ⟨48,[fF,fF,tT,tT,tT,tT,tT,tT,tT,tT,tT,fF,tT],0,⟨⟨[(7, .bptr 0 0),(8, .bptr 1 0),(11, .int .i64),(12, .map 2),(13, .vec 7 1)],[q13m,q10m, .map,q6m,q8m, .map,q1m,q16m],115⟩,[((AX.exit 4),⟨[(7, .bptr 0 0),(11, .int .i64),(12, .map 1),(13, .vec 2 1)],q20m,115⟩)]⟩⟩,
 ⟨48,[fF,tT,tT,tT,tT,fF,fF,fF,fF,tT,tT,tT,tT,tT,tT,tT,tT,tT,fF,tT],0,⟨⟨[(7, .bptr 0 0),(8, .bptr 1 0),(11, .int .i64),(12, .map 2),(13, .vec 3 1),(72, .int .i64),(73, .int .i64)],q18m,115⟩,[((AX.exit 6),⟨[(7, .bptr 0 0),(8, .bptr 1 0),(11, .int .i64),(12, .map 2),(13, .vec 3 1)],q18m,115⟩)]⟩⟩]
def ja48:List JA:=
 [⟨48,[tT,tT,fF,fF,tT,fF,fF,tT,fF,tT,tT,tT,fF,tT],0,[(AX.normal,⟨[(7, .bptr 0 0),(8, .bptr 1 0),(9, .bptr 2 0)],q19m,115⟩)]⟩,
 ⟨48,[fF,fF,fF,tT,tT,tT,tT,tT,tT,tT,tT,tT,fF,tT],0,[((AX.exit 4),⟨[(7, .bptr 0 0),(11, .int .i64),(12, .map 1),(13, .vec 2 1)],q20m,115⟩),(AX.normal,⟨[(7, .bptr 0 0),(8, .bptr 1 0),(11, .int .i64),(12, .map 2),(13, .vec 3 1)],q18m,115⟩)]⟩,
 ⟨48,[fF,tT,fF,fF,tT,tT,fF,fF,tT,tT,tT,tT,fF,fF,fF,fF,tT,tT,tT,tT,tT,tT,tT,tT,tT,fF,tT],0,[(AX.normal,⟨[(7, .bptr 0 0),(8, .bptr 1 0),(11, .int .i64),(12, .map 2),(13, .vec 3 1),(16, .int .i64),(72, .int .i64),(73, .int .i64),(90, .bool)],q18m,115⟩)]⟩,
 ⟨131,[fF,tT,tT,fF,fF,tT],10,[(AX.ret,⟨[],[q13m,q10m,q15m,q6m,q8m, .map,q1m,q13m,q10m, .loop Go.LoopState.done (Option.some (Go.Code.exit 2)) 48 [Bool.false,Bool.true,Bool.true,Bool.false,Bool.false,Bool.true,Bool.false,Bool.false,Bool.true,Bool.false,Bool.true,Bool.true,Bool.true,Bool.false,Bool.true] 115 [(31, .clo 131 [] [.bptr 7 0, .bptr 8 0]),(7, .bptr 0 0),(8, .bptr 1 0),(9, .bptr 2 0)]],34⟩),(AX.normal,⟨[(0, .yld 9),(2, .bptr 8 0),(9, .full 6 2),(10, .int .i64),(11, .int .i64)],[q13m,q10m,q15m,q6m,q8m, .map,q1m,q13m,q10m, .loop Go.LoopState.ready Option.none 48 [Bool.false,Bool.true,Bool.true,Bool.false,Bool.false,Bool.true,Bool.false,Bool.false,Bool.true,Bool.false,Bool.true,Bool.true,Bool.true,Bool.false,Bool.true] 115 [(31, .clo 131 [] [.bptr 7 0, .bptr 8 0]),(7, .bptr 0 0),(8, .bptr 1 0),(9, .bptr 2 0)]],34⟩)]⟩]
def u7v:List CF:=
 [⟨v52,v3a⟩,⟨u0d,u9i⟩,⟨u3n,G98⟩,⟨v7r,G66⟩,⟨v85,G72⟩,⟨v7t,u2c⟩,⟨v5d,G74⟩,⟨v83,G90⟩]
def an48:Anns:=
 ⟨u7v,ja48,[]⟩
def v4x (p:Prim):W16w→Option (W16w⊕W33w):=
 fun a=>let G:=a.2.2.2.2.1;let A:=p.eqN (p.len G) (p.len G);let C:=a.2.2.2.2.2.2.2.2.2.1;let E:=a.2.2.2.2.2.2.2.2.2.2.2.1;let F:=p.eqN 0 0;let H:=p.eqN (p.len a.2.1) (p.len a.2.1);let I:=a.2.2.2.2.2.2.2.2.2.2.1;let J:=a.2.2.2.2.2.2.1;let K:=a.2.2.2.2.2.2.2.2.1;let L:=p.add 0 (p.nat C);let M:=a.2.2.2.2.2.1;let O:=a.2.2.2.2.2.2.2.1;let Q:=a.2.2.2.2.2.2.2.2.2.2.2; opt.run _ (
 opt.ask _ (p.cmp .lss E I) (
 opt.bnd (W11w) _ (
 opt.run (W11w) (
 opt.need _ (bif (p.cmp .geq C (0:Int)) then (p.cmp .lss C (p.ofNat (p.len G))) else Bool.false)<|
 opt.need _ (p.rowOk G L [(CK.int .u64),(CK.int .u64)])<|
 opt.bnd (W4w) _ (G74 p ((p.rdI G L 0),((p.rdI G L 1),Q))) fun b=>
 opt.ask _ b.1 (
 opt.bnd (W4w) _ (G74 p (M,(J,Q))) fun c=>
 opt.need _ F<|
 opt.need _ A<|
 opt.need _ A<|
 opt.need _ F<|
 opt.need _ H<|
 opt.ret _ (a.1,(a.2.1,(a.2.2.1,(a.2.2.2.1,(G,(M,(J,(O,(K,(C,(E,(I,(E,((bif c.1 then Bool.false else Bool.true),()))))))))))))))) (
 opt.need _ F<|
 opt.need _ A<|
 opt.need _ A<|
 opt.need _ F<|
 opt.need _ H<|
 opt.ret _ (a.1,(a.2.1,(a.2.2.1,(a.2.2.2.1,(G,(M,(J,(O,(K,(C,(E,(I,(E,(Bool.false,()))))))))))))))))) fun d=>let P:=d.2.2.2.2.1;let B:=p.eqN (p.len P) (p.len P);let N:=p.len d.2.1;
 opt.ask _ d.2.2.2.2.2.2.2.2.2.2.2.2.2.1 (
 opt.need _ F<|
 opt.need _ B<|
 opt.need _ B<|
 opt.need _ F<|
 opt.need _ (p.eqN N N)<|
 opt.ret _ (Sum.inr (d.1,(d.2.1,(d.2.2.1,(d.2.2.2.1,(P,(d.2.2.2.2.2.1,(d.2.2.2.2.2.2.1,(d.2.2.2.2.2.2.2.1,(d.2.2.2.2.2.2.2.2.1,(d.2.2.2.2.2.2.2.2.2.2.1,())))))))))))) (
 opt.need _ F<|
 opt.need _ B<|
 opt.need _ B<|
 opt.need _ F<|
 opt.need _ (p.eqN N N)<|
 opt.ret _ (Sum.inl (d.1,(d.2.1,(d.2.2.1,(d.2.2.2.1,(P,(d.2.2.2.2.2.1,(d.2.2.2.2.2.2.1,(d.2.2.2.2.2.2.2.1,(d.2.2.2.2.2.2.2.2.1,(d.2.2.2.2.2.2.2.2.2.1,(d.2.2.2.2.2.2.2.2.2.2.2.1,((p.ar .add .i64 d.2.2.2.2.2.2.2.2.2.2.2.2.1 (1:Int)),()))))))))))))))) (
 opt.need _ F<|
 opt.need _ A<|
 opt.need _ A<|
 opt.need _ F<|
 opt.need _ H<|
 opt.ret _ (Sum.inr (a.1,(a.2.1,(a.2.2.1,(a.2.2.2.1,(G,(M,(J,(O,(K,(C,())))))))))))))
def u8k (p:Prim):W16w→Option (W16w⊕W33w):=
 fun a=>let G:=a.2.2.2.2.1;let A:=p.eqN (p.len G) (p.len G);let C:=a.2.2.2.2.2.2.2.2.2.1;let E:=a.2.2.2.2.2.2.2.2.2.2.2.1;let F:=p.eqN 0 0;let H:=p.eqN (p.len a.2.1) (p.len a.2.1);let I:=a.2.2.2.2.2.2.2.2.2.2.1;let J:=a.2.2.2.2.2.2.1;let K:=a.2.2.2.2.2.2.2.2.1;let L:=p.add 0 (p.nat C);let M:=a.2.2.2.2.2.1;let O:=a.2.2.2.2.2.2.2.1;let Q:=a.2.2.2.2.2.2.2.2.2.2.2; opt.run _ (
 opt.ask _ (p.cmp .lss E I) (
 opt.bnd (W11w) _ (
 opt.run (W11w) (
 opt.need _ (bif (p.cmp .geq C (0:Int)) then (p.cmp .lss C (p.ofNat (p.len G))) else Bool.false)<|
 opt.need _ (p.rowOk G L [(CK.int .u64),(CK.int .u64)])<|
 opt.bnd (W4w) _ (G74 p ((p.rdI G L 0),((p.rdI G L 1),Q))) fun b=>
 opt.ask _ b.1 (
 opt.bnd (W4w) _ (G74 p (M,(J,Q))) fun c=>
 opt.need _ F<|
 opt.need _ A<|
 opt.need _ A<|
 opt.need _ F<|
 opt.need _ H<|
 opt.ret _ (a.1,(a.2.1,(a.2.2.1,(a.2.2.2.1,(G,(M,(J,(O,(K,(C,(E,(I,(E,((bif c.1 then Bool.false else Bool.true),()))))))))))))))) (
 opt.need _ F<|
 opt.need _ A<|
 opt.need _ A<|
 opt.need _ F<|
 opt.need _ H<|
 opt.ret _ (a.1,(a.2.1,(a.2.2.1,(a.2.2.2.1,(G,(M,(J,(O,(K,(C,(E,(I,(E,(Bool.false,()))))))))))))))))) fun d=>let P:=d.2.2.2.2.1;let B:=p.eqN (p.len P) (p.len P);let N:=p.len d.2.1;
 opt.ask _ d.2.2.2.2.2.2.2.2.2.2.2.2.2.1 (
 opt.need _ F<|
 opt.need _ B<|
 opt.need _ B<|
 opt.need _ F<|
 opt.need _ (p.eqN N N)<|
 opt.ret _ (Sum.inr (d.1,(d.2.1,(d.2.2.1,(d.2.2.2.1,(P,(d.2.2.2.2.2.1,(d.2.2.2.2.2.2.1,(d.2.2.2.2.2.2.2.1,(d.2.2.2.2.2.2.2.2.1,(d.2.2.2.2.2.2.2.2.2.2.1,())))))))))))) (
 opt.need _ F<|
 opt.need _ B<|
 opt.need _ B<|
 opt.need _ F<|
 opt.need _ (p.eqN N N)<|
 opt.ret _ (Sum.inl (d.1,(d.2.1,(d.2.2.1,(d.2.2.2.1,(P,(d.2.2.2.2.2.1,(d.2.2.2.2.2.2.1,(d.2.2.2.2.2.2.2.1,(d.2.2.2.2.2.2.2.2.1,(d.2.2.2.2.2.2.2.2.2.1,(d.2.2.2.2.2.2.2.2.2.2.2.1,((p.ar .add .i64 d.2.2.2.2.2.2.2.2.2.2.2.2.1 (1:Int)),()))))))))))))))) (
 opt.need _ F<|
 opt.need _ A<|
 opt.need _ A<|
 opt.need _ F<|
 opt.need _ H<|
 opt.ret _ (Sum.inr (a.1,(a.2.1,(a.2.2.1,(a.2.2.2.1,(G,(M,(J,(O,(K,(C,())))))))))))))
def v77 (p:Prim):W49w→Option (W49w⊕W23w):=
 fun a=>let G:=p.len a.2.2.2.2.1;let B:=a.2.2.2.2.2.2.2.2.2.1;let I:=p.add a.2.2.2.2.2.2.2.1 (p.nat B);let S:=[[(D.int .i64 (p.rdI a.2.1 I 0))]];let A:=p.app (p.cut a.2.2.2.2.1 0 G) (p.cut S 0 1);let C:=p.and (p.leN (p.add 0 1) (p.len S)) (p.and (p.leN (p.add 0 G) G) (p.and (p.leN 1 1) (p.leN (p.add G 1) 1000000)));let X:=a.2.2.2.1;let E:=p.eqN (p.len X) (p.len X);let R:=a.2.2.2.2.2.2.2.2.1;let F:=(A,(a.2.1,(a.2.2.1,(X,(a.2.2.2.2.2.1,(a.2.2.2.2.2.2.1,(a.2.2.2.2.2.2.2.1,(R,(B,((p.ofNat R),((0:Int),())))))))))));let H:=p.eqN 0 0;let J:=bif (p.cmp .geq B (0:Int)) then (p.cmp .lss B (p.ofNat R)) else Bool.false;let K:=D.int .i64 B;let P:=p.mOk a.1 [SK.i] Bool.false K Bool.false [ci];let Q:=p.rowOk a.2.1 I [ci,ci,(CK.list 1),ci];let T:=p.mhas a.1 [SK.i] Bool.false K;let U:=p.eqN (p.add G 1) (p.len A);let V:=D.int .i64 (p.ofNat G); opt.run _ (
 opt.alt (W23w) (W33w) _ (
 opt.run ((W23w⊕W33w)) (
 opt.need _ P<|
 opt.ask _ T (
 opt.need _ H<|
 opt.need _ E<|
 opt.need _ E<|
 opt.need _ H<|
 opt.need _ (p.eqN G G)<|
 opt.ret _ (Sum.inl (a.1,(a.2.2.2.2.1,(a.2.1,(a.2.2.1,(X,a.2.2.2.2.2.2.2))))))) (
 opt.need _ P<|
 opt.ask _ T (
 opt.need _ J<|
 opt.need _ Q<|
 opt.need _ C<|
 opt.need _ H<|
 opt.need _ E<|
 opt.need _ E<|
 opt.need _ H<|
 opt.need _ U<|
 opt.bnd (W33w) _ (
 z5q (u8k p) ((p.mset a.1 (p.nat (p.ofNat (p.mpos a.1 [SK.i] Bool.false K))) K V),F)) fun b=>let O:=p.len b.2.2.2.2.1;
 opt.need _ H<|
 opt.need _ (p.eqN O O)<|
 opt.need _ (p.eqN O O)<|
 opt.need _ H<|
 opt.need _ (p.eqN (p.len b.2.1) (p.len b.2.1))<|
 opt.ret _ (Sum.inr b)) (
 opt.need _ J<|
 opt.need _ Q<|
 opt.need _ C<|
 opt.need _ H<|
 opt.need _ E<|
 opt.need _ E<|
 opt.need _ H<|
 opt.need _ U<|
 opt.bnd (W33w) _ (
 z5q (v4x p) ((p.madd a.1 K V),F)) fun c=>let N:=p.len c.2.2.2.2.1;
 opt.need _ H<|
 opt.need _ (p.eqN N N)<|
 opt.need _ (p.eqN N N)<|
 opt.need _ H<|
 opt.need _ (p.eqN (p.len c.2.1) (p.len c.2.1))<|
 opt.ret _ (Sum.inr c))))) (fun d=>let M:=p.len d.2.2.2.2.1;
 opt.need _ H<|
 opt.need _ (p.eqN M M)<|
 opt.need _ (p.eqN M M)<|
 opt.need _ H<|
 opt.need _ (p.eqN (p.len d.2.1) (p.len d.2.1))<|
 opt.ret _ (Sum.inr d)) (fun e=>
 opt.bnd (W33w) _ (some e) fun f=>let L:=p.len f.2.2.2.2.1;
 opt.need _ H<|
 opt.need _ (p.eqN L L)<|
 opt.need _ (p.eqN L L)<|
 opt.need _ H<|
 opt.need _ (p.eqN (p.len f.2.1) (p.len f.2.1))<|
 opt.ret _ (Sum.inl (f.1,(f.2.2.1,(f.2.2.2.1,(f.2.2.2.2.1,(f.2.1,f.2.2.2.2.2))))))))
def v4y (p:Prim):W15w→Option (W15w⊕(W9w⊕W9w)):=
 fun a=>let H:=a.2.2.1;let A:=p.eqN (p.len H) (p.len H);let G:=a.2.2.2.2.2.2.2.2.2.2.2.1;let B:=p.add 0 (p.nat G);let E:=(a.2.2.2.2.2.2.2.2.1,(a.2.2.2.2.2.2.2.2.2.1,()));let F:=p.eqN 0 0;let J:=(a.2.2.2.2.2.2.1,(a.2.2.2.2.2.2.2.1,E));let K:=a.2.2.2.2.2.2.2.2.2.2.2; opt.run _ (
 opt.ask _ (p.cmp .lss G a.2.2.2.2.2.2.2.2.2.2.1) (
 opt.alt (W9w) (W15w) _ (
 opt.run ((W9w⊕W15w)) (
 opt.need _ (bif (p.cmp .geq G (0:Int)) then (p.cmp .lss G (p.ofNat (p.len H))) else Bool.false)<|
 opt.need _ (p.rowOk H B [(CK.int .u64),(CK.int .u64)])<|
 opt.bnd (W4w) _ (G74 p (a.2.2.2.2.2.2.2.2.1,(a.2.2.2.2.2.2.2.2.2.1,K))) fun b=>
 opt.ask _ (bif b.1 then Bool.false else Bool.true) (
 opt.bnd (W0w) _ (u2c p ((p.rdI H B 0),((p.rdI H B 1),E))) fun c=>
 opt.ask _ (bif (p.cmp .eql c.1 (p.rdI H B 0)) then (bif (p.cmp .eql c.2.1 (p.rdI H B 1)) then Bool.true else Bool.false) else Bool.false) (
 opt.bnd (W0w) _ (G72 p (a.2.2.2.1,(a.2.2.2.2.1,K))) fun d=>
 opt.need _ F<|
 opt.need _ A<|
 opt.need _ A<|
 opt.ret _ (Sum.inl (a.1,(a.2.1,(H,(d.1,(d.2.1,(Bool.true,J)))))))) (
 opt.need _ F<|
 opt.need _ A<|
 opt.need _ A<|
 opt.need _ F<|
 opt.need _ A<|
 opt.need _ A<|
 opt.ret _ (Sum.inr a))) (
 opt.need _ F<|
 opt.need _ A<|
 opt.need _ A<|
 opt.need _ F<|
 opt.need _ A<|
 opt.need _ A<|
 opt.ret _ (Sum.inr a)))) (fun e=>let I:=p.len e.2.2.1;
 opt.need _ F<|
 opt.need _ (p.eqN I I)<|
 opt.need _ (p.eqN I I)<|
 opt.ret _ (Sum.inr (Sum.inl e))) (fun f=>
 opt.bnd (W15w) _ (some f) fun g=>let C:=p.eqN (p.len g.2.2.1) (p.len g.2.2.1);
 opt.need _ F<|
 opt.need _ C<|
 opt.need _ C<|
 opt.need _ F<|
 opt.need _ C<|
 opt.need _ C<|
 opt.ret _ (Sum.inl (g.1,(g.2.1,(g.2.2.1,(g.2.2.2.1,(g.2.2.2.2.1,(g.2.2.2.2.2.1,(g.2.2.2.2.2.2.1,(g.2.2.2.2.2.2.2.1,(g.2.2.2.2.2.2.2.2.1,(g.2.2.2.2.2.2.2.2.2.1,(g.2.2.2.2.2.2.2.2.2.2.1,((p.ar .add .i64 g.2.2.2.2.2.2.2.2.2.2.2.1 (1:Int)),()))))))))))))))) (
 opt.need _ F<|
 opt.need _ A<|
 opt.need _ A<|
 opt.ret _ (Sum.inr (Sum.inr (a.1,(a.2.1,(H,(a.2.2.2.1,(a.2.2.2.2.1,(a.2.2.2.2.2.1,J))))))))))
def v6w (p:Prim):W24w→Option (W24w⊕W19w):=
 fun a=>let G:=p.len a.2.2.1;let A:=p.eqN G G;let B:=p.eqN 0 0; opt.run _ (
 opt.ask _ a.2.2.2.2.2.1 (
 opt.bnd (W24w) _ (
 opt.run (W24w) (
 opt.need _ B<|
 opt.need _ A<|
 opt.need _ A<|
 opt.need _ B<|
 opt.need _ A<|
 opt.need _ A<|
 opt.alt (W9w) (W9w) _ (
 z5q (v4y p) (a.1,(a.2.1,(a.2.2.1,(a.2.2.2.1,(a.2.2.2.2.1,(Bool.false,(a.2.2.2.2.2.2.1,(a.2.2.2.2.2.2.2.1,(a.2.2.2.1,(a.2.2.2.2.1,((p.ofNat G),((0:Int),()))))))))))))) (fun b=>let F:=p.len b.2.2.1;
 opt.need _ B<|
 opt.need _ (p.eqN F F)<|
 opt.need _ (p.eqN F F)<|
 opt.ret _ (b.1,(b.2.1,(b.2.2.1,(b.2.2.2.1,(b.2.2.2.2.1,(b.2.2.2.2.2.1,(b.2.2.2.2.2.2.1,(b.2.2.2.2.2.2.2.1,()))))))))) (fun c=>
 opt.bnd (W9w) _ (some c) fun d=>let E:=p.len d.2.2.1;
 opt.need _ B<|
 opt.need _ (p.eqN E E)<|
 opt.need _ (p.eqN E E)<|
 opt.ret _ (d.1,(d.2.1,(d.2.2.1,(d.2.2.2.1,(d.2.2.2.2.1,(d.2.2.2.2.2.1,(d.2.2.2.2.2.2.1,(d.2.2.2.2.2.2.2.1,()))))))))))) fun e=>let C:=p.len e.2.2.1;
 opt.need _ B<|
 opt.need _ (p.eqN C C)<|
 opt.need _ (p.eqN C C)<|
 opt.ret _ (Sum.inl e)) (
 opt.need _ B<|
 opt.need _ A<|
 opt.need _ A<|
 opt.ret _ (Sum.inr (a.1,(a.2.1,(a.2.2.1,(a.2.2.2.1,(a.2.2.2.2.1,a.2.2.2.2.2.2))))))))
def G48:(p:Prim)→W42w→Option ((LD×W41w)):=
 fun p x=>let J:=(0:Int);let Q:=p.add 0 (p.nat J);let A2:=p.eqN 0 0;let A5:=p.leN 1 1;
 opt.bnd (W1w) _ (G90 p x) fun a=>
 opt.ask _ (p.cmp .neq a.1 J) (
 opt.ret _ ([],(0,(0,a)))) (
 opt.bnd (W3w) _ (G66 p ([[(D.list Bool.false 4 x.1)],[(D.list Bool.false 4 x.2.1)]],())) fun b=>let Y:=p.len b.2.2.1;
 opt.need _ A2<|
 opt.need _ (p.eqN Y Y)<|
 opt.need _ (p.eqN Y Y)<|
 opt.bnd (W19w) _ (
 z5q (v6w p) (b.1,(b.2.1,(b.2.2.1,(J,(J,(Bool.true,b.2.2.2))))))) fun c=>let X:=p.len c.2.2.1;
 opt.need _ A2<|
 opt.need _ (p.eqN X X)<|
 opt.need _ (p.eqN X X)<|
 opt.bnd (W7w) _ (G98 p (c.1,(c.2.1,(c.2.2.1,(c.2.2.2.1,(c.2.2.2.2.1,(c.2.2.2.2.2.1,(c.2.2.2.2.2.2.1,c.2.2.2.2.2)))))))) fun d=>let V:=p.len d.2.2.1;
 opt.ask _ (p.cmp .lss d.2.2.2.2.2.2.2.1 J) (
 opt.ret _ ([],(0,(0,((5:Int),()))))) (
 opt.need _ A2<|
 opt.need _ (p.eqN V V)<|
 opt.need _ (p.eqN V V)<|
 opt.bnd (W23w) _ (
 z5q (v77 p) ([],(d.1,(d.2.1,(d.2.2.1,([],d.2.2.2)))))) fun e=>let I:=e.2.2.2.2.2.2.2.1;let A8:=D.int .i64 I;let M:=p.mI e.1 [SK.i] Bool.false A8 0;let A:=p.nat M;let A3:=p.add e.2.2.2.2.2.1 (p.nat I);let B:=[[(D.int .i64 (p.rdI e.2.2.1 A3 0))]];let R:=p.len e.2.1;let G:=p.ofNat R;let C:=p.nat G;let F:=p.sub C (p.nat J);let E:=p.add Q F;let A6:=p.add 0 A;let A4:=p.sub C A;let H:=p.add A6 A4;let K:=p.cut B 0 1;let L:=p.add A4 1;let N:=bif (p.cmp .geq I J) then (p.cmp .lss I (p.ofNat e.2.2.2.2.2.2.1)) else Bool.false;let O:=p.leN (p.add 0 1) (p.len B);let P:=p.rowOk e.2.2.1 A3 [ci,ci,(CK.list 1),ci];let S:=p.app (p.cut e.2.1 A6 A4) K;let T:=p.add F 1;let U:=p.cmp .leq G G;let Z:=p.splice e.2.1 H K;let A1:=p.splice e.2.1 E K;let A7:=p.app (p.cut e.2.1 Q F) K;
 opt.need _ (p.mOk e.1 [SK.i] Bool.false A8 Bool.false [ci])<|
 opt.ask _ (p.mhas e.1 [SK.i] Bool.false A8) (
 opt.need _ (p.and (p.cmp .geq M J) (p.and (p.cmp .leq M G) (p.and U U)))<|
 opt.need _ N<|
 opt.need _ P<|
 opt.ask _ (p.leN L A4) (
 opt.need _ (p.and O (p.and (p.leN H R) (p.and A5 (p.leN H R))))<|
 opt.need _ (p.eqN A6 0)<|
 opt.need _ (p.eqN L (p.len Z))<|
 opt.need _ (p.leN H (p.len Z))<|
 opt.bnd (W14w) _ (v3a p (Z,())) fun f=>
 opt.need _ (p.leN H (p.len f.1))<|
 opt.ret _ (f.1,(A6,(L,(J,()))))) (
 opt.need _ (p.and O (p.and (p.leN H R) (p.and A5 (p.leN L 1000000))))<|
 opt.need _ A2<|
 opt.need _ (p.eqN L (p.len S))<|
 opt.bnd (W14w) _ (v3a p (S,())) fun g=>
 opt.ret _ (g.1,(0,(L,(J,())))))) (
 opt.need _ (p.and (p.cmp .geq J J) (p.and (p.cmp .leq J G) (p.and U U)))<|
 opt.need _ N<|
 opt.need _ P<|
 opt.ask _ (p.leN T F) (
 opt.need _ (p.and O (p.and (p.leN E R) (p.and A5 (p.leN E R))))<|
 opt.need _ (p.eqN Q 0)<|
 opt.need _ (p.eqN T (p.len A1))<|
 opt.need _ (p.leN E (p.len A1))<|
 opt.bnd (W14w) _ (v3a p (A1,())) fun h=>
 opt.need _ (p.leN E (p.len h.1))<|
 opt.ret _ (h.1,(Q,(T,(J,()))))) (
 opt.need _ (p.and O (p.and (p.leN E R) (p.and A5 (p.leN T 1000000))))<|
 opt.need _ A2<|
 opt.need _ (p.eqN T (p.len A7))<|
 opt.bnd (W14w) _ (v3a p (A7,())) fun i=>
 opt.ret _ (i.1,(0,(T,(J,()))))))))
theorem ok48:CtrOk PG u3z (G48 std):=okF vD (a:=an48) (l:=la48) (gC u0x (gC u6b (gC ok98 (gC u5h (gC u5r (gC u2t (gC u2i (gC u5p (gN)))))))))
end Go.Am
end
noncomputable section
namespace Go.Am
def u0b:Ctr:=
 ⟨102,[.agg [.int .i64, .int .i64, .list 1, .int .i64], .bptr 0 0],[q12m],[(.ret,⟨[(0, .bool)],[q12m],1⟩)]⟩
def u6k:List LA:=
 []
def u6v:List JA:=
 []
def u3j:List CF:=
 []
def u8t:Anns:=
 ⟨u3j,u6v,[]⟩
def u5f:(p:Prim)→(Int×W26w)→Option ((Int×W4w)):=
 fun p x=>
 opt.ret _ (x.1,((p.cmp .eql x.2.1 x.1),()))
theorem u5z:CtrOk PG u0b (u5f std):=okF vE (a:=u8t) (l:=u6k) (gN)
def v94:Ctr:=
 ⟨98,[.list 4, .clo 102 [] [.bptr 0 0]],[q12m],[(.ret,⟨[(0, .int .i64)],[q12m],1⟩)]⟩
def u6c:List LA:=
 [⟨98,[fF,tT,fF,tT],1,⟨⟨[(0, .list 4),(1, .clo 102 [] [.bptr 0 0]),(7, .int .i64),(8, .int .i64)],[q12m],19⟩,[(AX.ret,⟨[(4, .int .i64)],[q12m],19⟩),((AX.exit 0),⟨[],[q12m],19⟩)]⟩⟩]
def u6n:List JA:=
 []
def u3b:List CF:=
 [⟨u0b,u5f⟩]
def u8l:Anns:=
 ⟨u3b,u6n,[]⟩
def v34 (p:Prim):W36w→Option (W36w⊕(W0w⊕W1w)):=
 fun a=>let B:=a.2.2.2.1;let A:=p.nat B; opt.run _ (
 opt.ask _ (p.cmp .lss B a.2.2.1) (
 opt.need _ (p.rowOk a.2.1 A [ci,ci,(CK.list 1),ci])<|
 opt.need _ (p.cmp .geq B (0:Int))<|
 opt.bnd ((Int×W4w)) _ (u5f p (a.1,((p.rdI a.2.1 A 0),((p.rdI a.2.1 A 1),((p.rdL a.2.1 A 2),((p.rdI a.2.1 A 3),())))))) fun b=>
 opt.ask _ b.2.1 (
 opt.ret _ (Sum.inr (Sum.inl (b.1,a.2.2.2)))) (
 opt.ret _ (Sum.inl (b.1,(a.2.1,(a.2.2.1,((p.ar .add .i64 B (1:Int)),()))))))) (
 opt.ret _ (Sum.inr (Sum.inr (a.1,())))))
def u4l:(p:Prim)→(Int×W14w)→Option (W0w):=
 fun p x=>
 opt.alt (W0w) (W1w) _ (
 z5q (v34 p) (x.1,(x.2.1,((p.ofNat (p.len x.2.1)),((0:Int),()))))) (fun a=>
 opt.ret _ a) (fun b=>
 opt.bnd (W1w) _ (some b) fun c=>
 opt.ret _ (c.1,((-1:Int),())))
theorem u5o:CtrOk PG v94 (u4l std):=okF vE (a:=u8l) (l:=u6c) (gC u5z (gN))
def u0a:Ctr:=
 ⟨103,[.agg [.int .i64, .int .i64, .list 1, .int .i64], .bptr 0 0],[q12m],[(.ret,⟨[(0, .bool)],[q12m],1⟩)]⟩
def u6j:List LA:=
 []
def u6u:List JA:=
 []
def u3i:List CF:=
 []
def u8s:Anns:=
 ⟨u3i,u6u,[]⟩
def u5e:(p:Prim)→(Int×W26w)→Option ((Int×W4w)):=
 fun p x=>
 opt.ret _ (x.1,((p.cmp .eql x.2.1 x.1),()))
theorem u5y:CtrOk PG u0a (u5e std):=okF vE (a:=u8s) (l:=u6j) (gN)
def v5z:Ctr:=
 ⟨98,[.list 4, .clo 103 [] [.bptr 0 0]],[q12m],[(.ret,⟨[(0, .int .i64)],[q12m],1⟩)]⟩
def u1c:List LA:=
 [⟨98,[fF,tT,fF,tT],1,⟨⟨[(0, .list 4),(1, .clo 103 [] [.bptr 0 0]),(7, .int .i64),(8, .int .i64)],[q12m],19⟩,[(AX.ret,⟨[(4, .int .i64)],[q12m],19⟩),((AX.exit 0),⟨[],[q12m],19⟩)]⟩⟩]
def u1g:List JA:=
 []
def v8x:List CF:=
 [⟨u0a,u5e⟩]
def u1t:Anns:=
 ⟨v8x,u1g,[]⟩
def v2s (p:Prim):W36w→Option (W36w⊕(W0w⊕W1w)):=
 fun a=>let B:=a.2.2.2.1;let A:=p.nat B; opt.run _ (
 opt.ask _ (p.cmp .lss B a.2.2.1) (
 opt.need _ (p.rowOk a.2.1 A [ci,ci,(CK.list 1),ci])<|
 opt.need _ (p.cmp .geq B (0:Int))<|
 opt.bnd ((Int×W4w)) _ (u5e p (a.1,((p.rdI a.2.1 A 0),((p.rdI a.2.1 A 1),((p.rdL a.2.1 A 2),((p.rdI a.2.1 A 3),())))))) fun b=>
 opt.ask _ b.2.1 (
 opt.ret _ (Sum.inr (Sum.inl (b.1,a.2.2.2)))) (
 opt.ret _ (Sum.inl (b.1,(a.2.1,(a.2.2.1,((p.ar .add .i64 B (1:Int)),()))))))) (
 opt.ret _ (Sum.inr (Sum.inr (a.1,())))))
def v40:(p:Prim)→(Int×W14w)→Option (W0w):=
 fun p x=>
 opt.alt (W0w) (W1w) _ (
 z5q (v2s p) (x.1,(x.2.1,((p.ofNat (p.len x.2.1)),((0:Int),()))))) (fun a=>
 opt.ret _ a) (fun b=>
 opt.bnd (W1w) _ (some b) fun c=>
 opt.ret _ (c.1,((-1:Int),())))
theorem u0u:CtrOk PG v5z (v40 std):=okF vE (a:=u1t) (l:=u1c) (gC u5y (gN))
def u0c:Ctr:=
 ⟨101,[.list 4, .int .i64, .int .i64],[],[(.ret,⟨[(0, .bool)],[],1⟩)]⟩
def u6l:List LA:=
 []
def u6w:List JA:=
 []
def u3k:List CF:=
 [⟨v5z,v40⟩,⟨v94,u4l⟩,⟨u1l,G92⟩]
def u8u:Anns:=
 ⟨u3k,u6w,[]⟩
def u2m:(p:Prim)→W13w→Option (W4w):=
 fun p x=>let E:=[ci,ci,(CK.list 1),ci];
 opt.bnd (W0w) _ (u4l p (x.2.1,(x.1,()))) fun a=>let B:=p.nat a.2.1;let C:=p.cmp .geq a.2.1 (0:Int);
 opt.bnd (W0w) _ (v40 p (x.2.2.1,(x.1,()))) fun b=>let A:=p.nat b.2.1;
 opt.ask _ C (
 opt.ask _ (p.cmp .gtr b.2.1 a.2.1) (
 opt.need _ (p.rowOk x.1 B E)<|
 opt.need _ C<|
 opt.need _ (p.rowOk x.1 A E)<|
 opt.need _ (p.cmp .geq b.2.1 (0:Int))<|
 opt.bnd (W4w) _ (G92 p ((p.rdI x.1 B 0),((p.rdI x.1 B 1),((p.rdL x.1 B 2),((p.rdI x.1 B 3),((p.rdI x.1 A 0),((p.rdI x.1 A 1),((p.rdL x.1 A 2),((p.rdI x.1 A 3),()))))))))) fun c=>
 opt.ret _ c) (
 opt.ret _ (Bool.false,()))) (
 opt.ret _ (Bool.false,()))
theorem u6a:CtrOk PG u0c (u2m std):=okF vE (a:=u8u) (l:=u6l) (gC u0u (gC u5o (gC u9c (gN))))
def u3y:Ctr:=
 ⟨50,[.list 4, .list 4, .list 1],[],[(.ret,⟨[(0, .int .i64)],[],1⟩)]⟩
def la50:List LA:=
 [⟨50,[fF,tT,fF,tT,tT,tT,tT,tT],0,⟨⟨[(0, .list 4),(1, .list 4),(2, .list 1),(8, .clo 101 [] []),(9, .int .i64),(30, .list 1),(31, .int .i64),(32, .int .i64)],[],57⟩,[(AX.ret,⟨[(6, .int .i64)],[],57⟩),((AX.exit 0),⟨[(2, .list 1),(9, .int .i64)],[],57⟩)]⟩⟩]
def ja50:List JA:=
 [⟨50,[fF,fF,tT,tT],0,[(AX.normal,⟨[(0, .list 4),(1, .list 4),(2, .list 1),(25, .bool)],[],57⟩)]⟩,
 ⟨50,[fF,fF,tT,fF,fF,tT,tT,fF,fF,tT,fF,tT,tT,tT,tT,tT],0,[(AX.normal,⟨[(0, .list 4),(1, .list 4),(2, .list 1),(8, .clo 101 [] []),(11, .int .i64),(30, .list 1),(31, .int .i64),(32, .int .i64),(49, .bool)],[],57⟩)]⟩]
def u7u:List CF:=
 [⟨u0c,u2m⟩,⟨v83,G90⟩]
def an50:Anns:=
 ⟨u7u,ja50,[]⟩
def v5j (p:Prim):(LD×(LD×(LD×W36w)))→Option ((LD×(LD×(LD×W36w)))⊕(W1w⊕W18w)):=
 fun a=>let C:=a.2.2.2.2.1;let B:=a.2.2.2.2.2.2.1;let A:=p.rdI C (p.nat B) 0;let E:=a.2.2.2.2.2.1; opt.run _ (
 opt.ask _ (p.cmp .lss B E) (
 opt.need _ (p.rowOk C (p.nat B) [ci])<|
 opt.need _ (p.cmp .geq B (0:Int))<|
 opt.bnd ((LD×(LD×(LD×(Int×(LD×W48w)))))) _ (
 opt.run ((LD×(LD×(LD×(Int×(LD×W48w)))))) (
 opt.bnd (W4w) _ (u2m p (a.1,(a.2.2.2.1,(A,())))) fun b=>
 opt.ask _ (bif b.1 then Bool.false else Bool.true) (
 opt.bnd (W4w) _ (u2m p (a.2.1,(a.2.2.2.1,(A,())))) fun c=>
 opt.ret _ (a.1,(a.2.1,(a.2.2.1,(A,(C,(E,(B,((bif c.1 then Bool.false else Bool.true),()))))))))) (
 opt.ret _ (a.1,(a.2.1,(a.2.2.1,(A,(C,(E,(B,(Bool.false,()))))))))))) fun d=>
 opt.ask _ d.2.2.2.2.2.2.2.1 (
 opt.ret _ (Sum.inr (Sum.inl ((14:Int),())))) (
 opt.ret _ (Sum.inl (d.1,(d.2.1,(d.2.2.1,(d.2.2.2.1,(d.2.2.2.2.1,(d.2.2.2.2.2.1,((p.ar .add .i64 d.2.2.2.2.2.2.1 (1:Int)),())))))))))) (
 opt.ret _ (Sum.inr (Sum.inr (a.2.2.1,(a.2.2.2.1,()))))))
def G50:(p:Prim)→(LD×W42w)→Option (W1w):=
 fun p x=>let G:=(1:Int);let C:=(0:Int);let E:=p.ofNat (p.len x.2.2.1);let F:=p.nat C;
 opt.bnd (W1w) _ (G90 p (x.1,(x.2.1,()))) fun a=>
 opt.ask _ (p.cmp .neq a.1 C) (
 opt.ret _ a) (
 opt.bnd ((LD×W52w)) _ (
 opt.run ((LD×W52w)) (
 opt.ask _ (p.cmp .lss E (3:Int)) (
 opt.ret _ (x.1,(x.2.1,(x.2.2.1,(Bool.true,()))))) (
 opt.ret _ (x.1,(x.2.1,(x.2.2.1,((p.cmp .gtr E (4096:Int)),()))))))) fun b=>let H:=b.2.2.1;let A:=p.ofNat (p.len H);let B:=p.cut H (p.nat G) (p.sub (p.nat A) (p.nat G));
 opt.ask _ b.2.2.2.1 (
 opt.ret _ ((6:Int),())) (
 opt.need _ (p.rowOk H F [ci])<|
 opt.need _ (p.and (p.cmp .geq G C) (p.and (p.cmp .leq G A) (p.cmp .leq A A)))<|
 opt.alt (W1w) (W18w) _ (
 z5q (v5j p) (b.1,(b.2.1,(H,((p.rdI H F 0),(B,((p.ofNat (p.len B)),(C,())))))))) (fun c=>
 opt.ret _ c) (fun d=>
 opt.bnd (W18w) _ (some d) fun e=>
 opt.need _ (p.rowOk e.1 F [ci])<|
 opt.ask _ (p.cmp .neq e.2.1 (p.rdI e.1 F 0)) (
 opt.ret _ ((14:Int),())) (
 opt.ret _ (C,())))))
theorem ok50:CtrOk PG u3y (G50 std):=okF vE (a:=an50) (l:=la50) (gC u6a (gC u5p (gN)))
end Go.Am
end
noncomputable section
namespace Go.Am
def u3w:Ctr:=
 ⟨52,[.list 4, .list 4],[],[(.ret,⟨[(0, .vec 0 4)],[q8m],1⟩)]⟩
def la52:List LA:=
 [⟨52,[fF,tT,fF,tT,tT],0,⟨⟨[(0, .list 4),(1, .list 4),(5, .vec 0 4),(6, .int .i64)],[q8m],29⟩,[((AX.exit 0),⟨[(5, .vec 0 4)],[q8m],29⟩)]⟩⟩]
def ja52:List JA:=
 [⟨52,[tT,fF,fF,tT,fF,fF,tT,fF,tT,tT],0,[(AX.normal,⟨[(0, .list 4),(1, .list 4),(5, .vec 0 4),(6, .int .i64)],[q8m],29⟩)]⟩]
def u7s:List CF:=
 [⟨v7s,G43⟩]
def an52:Anns:=
 ⟨u7s,ja52,[]⟩
def v6v (p:Prim):W35w→Option (W35w⊕W14w):=
 fun a=>let I:=a.2.1;let B:=p.nat a.2.2.2.1;let A:=[[(D.int .i64 (p.rdI I B 0)),(D.int .i64 (p.rdI I B 1)),(D.list (p.rdF I B 2 1) 1 (p.rdL I B 2)),(D.int .i64 (p.rdI I B 3))]];let C:=p.len a.1;let E:=p.rowOk I B [ci,ci,(CK.list 1),ci];let F:=p.app (p.cut a.1 0 C) (p.cut A 0 1);let G:=p.cmp .geq a.2.2.2.1 (0:Int);let H:=p.eqN 0 0; opt.run _ (
 opt.ask _ (p.cmp .lss a.2.2.2.1 (p.ofNat (p.len I))) (
 opt.need _ E<|
 opt.need _ G<|
 opt.bnd (W1w) _ (G43 p (a.2.2.1,((p.rdI I B 0),()))) fun b=>
 opt.bnd (W35w) _ (
 opt.run (W35w) (
 opt.ask _ (p.cmp .geq b.1 (0:Int)) (
 opt.need _ E<|
 opt.need _ G<|
 opt.need _ (p.and (p.leN (p.add 0 1) (p.len A)) (p.and (p.leN (p.add 0 C) C) (p.and (p.leN 1 1) (p.leN (p.add C 1) 1000000))))<|
 opt.need _ H<|
 opt.need _ (p.eqN (p.add C 1) (p.len F))<|
 opt.ret _ (F,a.2)) (
 opt.need _ H<|
 opt.need _ (p.eqN C C)<|
 opt.ret _ a))) fun c=>
 opt.need _ H<|
 opt.need _ (p.eqN (p.len c.1) (p.len c.1))<|
 opt.ret _ (Sum.inl (c.1,(c.2.1,(c.2.2.1,((p.ar .add .i64 c.2.2.2.1 (1:Int)),())))))) (
 opt.need _ H<|
 opt.need _ (p.eqN C C)<|
 opt.ret _ (Sum.inr (a.1,()))))
def G52:(p:Prim)→W42w→Option (W14w):=
 fun p x=>
 opt.bnd (W14w) _ (
 z5q (v6v p) ([],(x.1,(x.2.1,((0:Int),()))))) fun a=>
 opt.need _ (p.eqN 0 0)<|
 opt.need _ (p.eqN (p.len a.1) (p.len a.1))<|
 opt.ret _ a
theorem ok52:CtrOk PG u3w (G52 std):=okF vE (a:=an52) (l:=la52) (gC u5i (gN))
def v99:Ctr:=
 ⟨104,[.list 4, .int .i64, .int .i64],[],[(.ret,⟨[(0, .bool)],[],1⟩)]⟩
def u6i:List LA:=
 []
def u6t:List JA:=
 []
def u3h:List CF:=
 [⟨u1p,G44⟩,⟨v7s,G43⟩]
def u8r:Anns:=
 ⟨u3h,u6t,[]⟩
def u2l:(p:Prim)→W13w→Option (W4w):=
 fun p x=>let F:=[ci,ci,(CK.list 1),ci];
 opt.bnd (W1w) _ (G43 p (x.1,(x.2.1,()))) fun a=>let B:=p.nat a.1;let E:=p.cmp .geq a.1 (0:Int);
 opt.bnd (W1w) _ (G43 p (x.1,x.2.2)) fun b=>let A:=p.nat b.1;let C:=p.cmp .geq b.1 (0:Int);
 opt.ask _ E (
 opt.ask _ C (
 opt.ask _ (p.cmp .lss a.1 b.1) (
 opt.need _ (p.rowOk x.1 B F)<|
 opt.need _ E<|
 opt.need _ (p.rowOk x.1 A F)<|
 opt.need _ C<|
 opt.bnd (W4w) _ (G44 p ((p.rdI x.1 B 0),((p.rdI x.1 B 1),((p.rdL x.1 B 2),((p.rdI x.1 B 3),((p.rdI x.1 A 0),((p.rdI x.1 A 1),((p.rdL x.1 A 2),((p.rdI x.1 A 3),()))))))))) fun c=>
 opt.ret _ c) (
 opt.ret _ (Bool.false,()))) (
 opt.ret _ (Bool.false,()))) (
 opt.ret _ (Bool.false,()))
theorem u5x:CtrOk PG v99 (u2l std):=okF vE (a:=u8r) (l:=u6i) (gC u9g (gC u5i (gN)))
def u3x:Ctr:=
 ⟨51,[.list 4, .list 4, .list 1],[],[(.ret,⟨[(0, .int .i64)],[],1⟩)]⟩
def la51:List LA:=
 [⟨51,[fF,tT,fF,tT,tT,tT],0,⟨⟨[(0, .list 4),(1, .list 4),(2, .list 1),(7, .int .i64)],[],65⟩,[(AX.ret,⟨[(6, .int .i64)],[],65⟩),((AX.exit 0),⟨[(2, .list 1)],[],65⟩)]⟩⟩]
def ja51:List JA:=
 [⟨51,[fF,fF,tT,tT],0,[(AX.normal,⟨[(0, .list 4),(1, .list 4),(2, .list 1),(22, .bool)],[],65⟩)]⟩,
 ⟨51,[fF,tT,fF,fF,tT,fF,tT,tT,tT],0,[(AX.ret,⟨[(6, .int .i64)],[],65⟩),(AX.normal,⟨[(0, .list 4),(1, .list 4),(2, .list 1),(7, .int .i64)],[],65⟩)]⟩]
def u7t:List CF:=
 [⟨v99,u2l⟩,⟨u3o,G93⟩]
def an51:Anns:=
 ⟨u7t,ja51,[]⟩
def v5i (p:Prim):W35w→Option (W35w⊕(W1w⊕W14w)):=
 fun a=>let C:=a.2.2.2.1;let A:=p.ar .sub .i64 C (1:Int);let E:=a.2.2.1;let B:=((p.rdI E (p.nat A) 0),((p.rdI E (p.nat C) 0),()));let F:=p.rowOk E (p.nat C) [ci];let G:=p.rowOk E (p.nat A) [ci];let H:=p.cmp .geq C (0:Int);let I:=p.cmp .geq A (0:Int); opt.run _ (
 opt.ask _ (p.cmp .lss C (p.ofNat (p.len E))) (
 opt.alt (W1w) (W35w) _ (
 opt.run ((W1w⊕W35w)) (
 opt.need _ G<|
 opt.need _ I<|
 opt.need _ F<|
 opt.need _ H<|
 opt.bnd (W4w) _ (u2l p (a.1,B)) fun b=>
 opt.ask _ (bif b.1 then Bool.false else Bool.true) (
 opt.need _ G<|
 opt.need _ I<|
 opt.need _ F<|
 opt.need _ H<|
 opt.bnd (W4w) _ (u2l p (a.2.1,B)) fun c=>
 opt.ask _ (bif c.1 then Bool.false else Bool.true) (
 opt.ret _ (Sum.inl ((14:Int),()))) (
 opt.ret _ (Sum.inr a))) (
 opt.ret _ (Sum.inr a)))) (fun d=>
 opt.ret _ (Sum.inr (Sum.inl d))) (fun e=>
 opt.bnd (W35w) _ (some e) fun f=>
 opt.ret _ (Sum.inl (f.1,(f.2.1,(f.2.2.1,((p.ar .add .i64 f.2.2.2.1 (1:Int)),()))))))) (
 opt.ret _ (Sum.inr (Sum.inr (E,())))))
def G51:(p:Prim)→(LD×W42w)→Option (W1w):=
 fun p x=>let B:=(0:Int);let C:=G93 p (x.1,(x.2.1,()));let E:=p.ofNat (p.len x.2.2.1);
 opt.bnd (W1w) _ C fun a=>
 opt.ask _ (p.cmp .neq a.1 B) (
 opt.bnd (W1w) _ C fun b=>
 opt.ret _ b) (
 opt.bnd ((LD×W52w)) _ (
 opt.run ((LD×W52w)) (
 opt.ask _ (p.cmp .lss E (3:Int)) (
 opt.ret _ (x.1,(x.2.1,(x.2.2.1,(Bool.true,()))))) (
 opt.ret _ (x.1,(x.2.1,(x.2.2.1,((p.cmp .gtr E (4096:Int)),()))))))) fun c=>
 opt.ask _ c.2.2.2.1 (
 opt.ret _ ((6:Int),())) (
 opt.alt (W1w) (W14w) _ (
 z5q (v5i p) (c.1,(c.2.1,(c.2.2.1,((1:Int),()))))) (fun d=>
 opt.ret _ d) (fun e=>
 opt.bnd (W14w) _ (some e) fun f=>let A:=p.ar .sub .i64 (p.ofNat (p.len f.1)) (1:Int);
 opt.need _ (p.rowOk f.1 (p.nat B) [ci])<|
 opt.need _ (p.rowOk f.1 (p.nat A) [ci])<|
 opt.need _ (p.cmp .geq A B)<|
 opt.ask _ (p.cmp .neq (p.rdI f.1 (p.nat B) 0) (p.rdI f.1 (p.nat A) 0)) (
 opt.ret _ ((14:Int),())) (
 opt.ret _ (B,())))))
theorem ok51:CtrOk PG u3x (G51 std):=okF vE (a:=an51) (l:=la51) (gC u5x (gC ok93 (gN)))
end Go.Am
end
section
namespace Go.Am
open D12
variable {fl fl':List Int→Bool}
def u2j (l:List Cd):Bool:=!x78 l&&decide (z4x l=0)
theorem u4x (l:List Cd):G41 std (z0p fl l,())=some (u2j l,()):=by
 unfold G41 u2j
 cases h:x78 l with
 |true=>simp only [z2c,z2d,z38,Int.reduceLT,Int.reduceEq,Int.reduceLE,w3f,h]; simp
 |false=>
  simp only [z2c,z2d,z38,Int.reduceLT,Int.reduceEq,Int.reduceLE,w3f,h,w8i l (x0h h).1]
def v2m (a b:List Cd):Int:=if z4x a≠0 then z4x a else z4x b
theorem u4p (a b:List Cd) (ha:Few a) (hb:Few b):G82 std (z0p fl a,(z0p fl' b,()))=some (v2m a b,()):=by
 unfold G82 v2m
 by_cases h:z4x a=0
 ·simp only [z2c,z2d,z38,Int.reduceLT,Int.reduceEq,Int.reduceLE,w8i a ha,w8i b hb,h]; simp
 ·simp only [z2c,z2d,z38,Int.reduceLT,Int.reduceEq,Int.reduceLE,w8i a ha,w8i b hb,h]; simp [h]
end Go.Am
end
section
namespace Go.Am
open D12
variable {fl fl':List Int→Bool}
theorem u0k (a b:List Cd) (ha:Few a) (hb:Few b):G78 std (z0p fl a,(z0p fl' b,()))=some (v2m a b,()):=by
 unfold G78 v2m
 by_cases h:z4x a=0
 ·simp only [z2c,z2d,z38,Int.reduceLT,Int.reduceEq,Int.reduceLE,w3c a ha,w3c b hb,h]; simp
 ·simp only [z2c,z2d,z38,Int.reduceLT,Int.reduceEq,Int.reduceLE,w3c a ha,w3c b hb,h]; simp [h]
end Go.Am
end
noncomputable section
namespace Go.Am
def u8f:Ctr:=
 ⟨13,[.list 4, .list 1, .int .u8],[],[(.ret,⟨[(0, .bool)],[],1⟩)]⟩
def la13:List LA:=
 [⟨13,[fF,tT,fF,tT,tT,tT],0,⟨⟨[(0, .list 4),(1, .list 1),(2, .int .u8),(7, .vec 0 4),(8, .vec 1 4),(9, .int .i64)],[q8m,q8m],292⟩,[((AX.exit 0),⟨[(0, .list 4),(2, .int .u8),(7, .vec 0 4),(8, .vec 1 4)],[q8m,q8m],292⟩)]⟩⟩,
 ⟨13,[fF,tT,fF,tT,tT,tT,tT,tT],0,⟨⟨[(0, .list 4),(2, .int .u8),(7, .list 4),(8, .list 4),(11, .bool),(12, .int .i64)],[],292⟩,[((AX.exit 2),⟨[(0, .list 4),(2, .int .u8),(7, .list 4),(8, .list 4),(11, .bool)],[],292⟩)]⟩⟩,
 ⟨13,[fF,tT,fF,fF,tT,fF,fF,tT,fF,tT,tT,tT,tT,tT],0,⟨⟨[(0, .list 4),(2, .int .u8),(7, .list 4),(8, .list 4),(11, .bool),(12, .int .i64),(13, .int .i64)],[],292⟩,[((AX.exit 4),⟨[(0, .list 4),(2, .int .u8),(7, .list 4),(8, .list 4),(11, .bool),(12, .int .i64)],[],292⟩)]⟩⟩]
def ja13:List JA:=
 [⟨13,[fF,fF,tT,tT,tT,tT,tT,tT,tT,tT],0,[(AX.normal,⟨[(0, .list 4),(2, .int .u8),(7, .list 4),(8, .list 4),(15, .vec 0 4),(16, .int .i64),(161, .bool)],[q8m],292⟩)]⟩,
 ⟨13,[fF,tT,fF,fF,tT,fF,fF,tT,fF,fF,tT,fF,tT,tT,tT,tT,tT],0,[(AX.normal,⟨[(0, .list 4),(2, .int .u8),(7, .list 4),(8, .list 4),(11, .bool),(12, .int .i64),(13, .int .i64)],[],292⟩)]⟩,
 ⟨13,[tT,fF,tT,fF,fF,tT,fF,fF,tT,fF,tT,tT,tT],0,[(AX.normal,⟨[(0, .list 4),(1, .list 1),(2, .int .u8),(7, .vec 0 4),(8, .vec 1 4),(9, .int .i64),(10, .int .u8)],[q8m,q8m],292⟩)]⟩,
 ⟨13,[tT,tT,tT,tT,fF,fF,tT,fF,fF,tT,fF,tT,tT,tT],0,[(AX.normal,⟨[(0, .list 4),(1, .list 1),(2, .int .u8),(7, .vec 0 4),(8, .vec 1 4),(9, .int .i64)],[q8m,q8m],292⟩)]⟩,
 ⟨13,[tT,fF,tT,tT,tT,tT,tT,tT,tT,tT,tT],0,[(AX.ret,⟨[(6, .bool)],[],292⟩),(AX.normal,⟨[(0, .list 4),(2, .int .u8)],[],292⟩)]⟩,
 ⟨13,[fF,tT,fF,tT,fF,tT,tT,tT,tT,tT,tT,tT,tT,tT],0,[(AX.normal,⟨[(0, .list 4),(2, .int .u8),(192, .bool)],[],292⟩)]⟩,
 ⟨13,[fF,fF,fF,tT,fF,fF,tT,fF,fF,tT,fF,fF,tT,fF,tT,tT,tT,tT,tT],0,[(AX.normal,⟨[(0, .list 4),(2, .int .u8),(7, .list 4),(8, .list 4),(11, .bool),(12, .int .i64),(13, .int .i64),(14, .bool)],[],292⟩)]⟩,
 ⟨13,[tT,fF,tT,tT,fF,fF,tT,fF,fF,tT,fF,tT,tT,tT],0,[(AX.normal,⟨[(0, .list 4),(1, .list 1),(2, .int .u8),(7, .vec 0 4),(8, .vec 1 4),(9, .int .i64),(10, .int .u8)],[q8m,q8m],292⟩)]⟩,
 ⟨13,[fF,fF,tT],0,[(AX.normal,⟨[(0, .list 4),(1, .list 1),(2, .int .u8),(30, .bool)],[],292⟩)]⟩]
def u8d:List CF:=
 [⟨u3w,G52⟩,⟨u4e,G29⟩,⟨u3z,G48⟩,⟨u4a,G46⟩,⟨u3x,G51⟩,⟨u3y,G50⟩,⟨u4c,G35⟩,⟨u4d,G34⟩,⟨u1p,G44⟩,⟨v7s,G43⟩,⟨w1v,F16⟩,⟨u4b,G41⟩]
def an13:Anns:=
 ⟨u8d,ja13,[⟨13,[false,true,true,true,true,true,true,true,true,true,true,true,true,true,true,true],⟨[(0, .list 4),(21, .int .i64),(22, .list 4)],[],292⟩⟩,⟨13,[false,false,true,true,true,true,true,true,true,true,true],⟨[(0, .list 4),(2, .int .u8),(7, .list 4),(8, .list 4),(15, .list 4),(16, .int .i64)],[],292⟩⟩,⟨13,[false,false,true,true,true,true,true],⟨[(0, .list 4),(2, .int .u8),(7, .list 4),(8, .list 4),(11, .bool)],[],292⟩⟩]⟩
def v6z (p:Prim):W40w→Option (W40w⊕W39w):=
 fun a=>let A:=a.2.2.2.2.2.2.1;let B:=a.2.2.2.2.2.1;let C:=[ci,ci,(CK.list 1),ci];let F:=(0:Int);let O:=a.2.2.1;let I:=a.2.2.2.1;let N:=a.2.2.2.2.1;let H:=(a.1,(a.2.1,(O,(I,(N,(B,(A,(Bool.false,()))))))));let J:=((p.rdI a.1 (p.nat B) 0),());let K:=((p.rdI a.1 (p.nat A) 0),());let L:=p.rowOk a.1 (p.nat B) C;let M:=p.rowOk a.1 (p.nat A) C;let R:=p.cmp .geq B F;let S:=p.cmp .geq A F; opt.run _ (
 opt.ask _ (p.cmp .lss A B) (
 opt.bnd (W40w) _ (
 opt.run (W40w) (
 opt.bnd ((LD×(Int×(LD×(LD×(Bool×W48w)))))) _ (
 opt.run ((LD×(Int×(LD×(LD×(Bool×W48w)))))) (
 opt.need _ L<|
 opt.need _ R<|
 opt.bnd (W1w) _ (G43 p (O,J)) fun b=>
 opt.ask _ (p.cmp .geq b.1 F) (
 opt.need _ M<|
 opt.need _ S<|
 opt.bnd (W1w) _ (G43 p (O,K)) fun c=>
 opt.ask _ (p.cmp .geq c.1 F) (
 opt.ret _ (a.1,(a.2.1,(O,(I,(N,(B,(A,(Bool.true,()))))))))) (
 opt.need _ L<|
 opt.need _ R<|
 opt.bnd (W1w) _ (G43 p (I,J)) fun d=>
 opt.ask _ (p.cmp .geq d.1 F) (
 opt.need _ M<|
 opt.need _ S<|
 opt.bnd (W1w) _ (G43 p (I,K)) fun e=>
 opt.ret _ (a.1,(a.2.1,(O,(I,(N,(B,(A,((p.cmp .geq e.1 F),()))))))))) (
 opt.ret _ H))) (
 opt.need _ L<|
 opt.need _ R<|
 opt.bnd (W1w) _ (G43 p (I,J)) fun f=>
 opt.ask _ (p.cmp .geq f.1 F) (
 opt.need _ M<|
 opt.need _ S<|
 opt.bnd (W1w) _ (G43 p (I,K)) fun g=>
 opt.ret _ (a.1,(a.2.1,(O,(I,(N,(B,(A,((p.cmp .geq g.1 F),()))))))))) (
 opt.ret _ H)))) fun h=>let E:=h.2.2.2.2.2.2.1;let G:=h.2.2.2.2.2.1;let P:=p.nat G;let Q:=p.nat E;let T:=(G,(E,()));
 opt.ask _ h.2.2.2.2.1 (
 opt.ask _ h.2.2.2.2.2.2.2.1 (
 opt.ret _ (h.1,(h.2.1,(h.2.2.1,(h.2.2.2.1,(Bool.true,T)))))) (
 opt.need _ (p.rowOk h.1 P C)<|
 opt.need _ (p.cmp .geq G F)<|
 opt.need _ (p.rowOk h.1 Q C)<|
 opt.need _ (p.cmp .geq E F)<|
 opt.bnd (W4w) _ (G44 p ((p.rdI h.1 P 0),((p.rdI h.1 P 1),((p.rdL h.1 P 2),((p.rdI h.1 P 3),((p.rdI h.1 Q 0),((p.rdI h.1 Q 1),((p.rdL h.1 Q 2),((p.rdI h.1 Q 3),()))))))))) fun i=>
 opt.ret _ (h.1,(h.2.1,(h.2.2.1,(h.2.2.2.1,((bif i.1 then Bool.false else Bool.true),T))))))) (
 opt.ret _ (h.1,(h.2.1,(h.2.2.1,(h.2.2.2.1,(Bool.false,T)))))))) fun j=>
 opt.ret _ (Sum.inl (j.1,(j.2.1,(j.2.2.1,(j.2.2.2.1,(j.2.2.2.2.1,(j.2.2.2.2.2.1,((p.ar .add .i64 j.2.2.2.2.2.2.1 (1:Int)),()))))))))) (
 opt.ret _ (Sum.inr (a.1,(a.2.1,(O,(I,(N,(B,())))))))))
def v8b (p:Prim):W39w→Option (W39w⊕(LD×(Int×W52w))):=
 fun a=>opt.run _ (
 opt.ask _ (p.cmp .lss a.2.2.2.2.2.1 (p.ofNat (p.len a.1))) (
 opt.bnd (W39w) _ (
 z5q (v6z p) (a.1,(a.2.1,(a.2.2.1,(a.2.2.2.1,(a.2.2.2.2.1,(a.2.2.2.2.2.1,((0:Int),())))))))) fun b=>
 opt.ret _ (Sum.inl (b.1,(b.2.1,(b.2.2.1,(b.2.2.2.1,(b.2.2.2.2.1,((p.ar .add .i64 b.2.2.2.2.2.1 (1:Int)),())))))))) (
 opt.ret _ (Sum.inr (a.1,(a.2.1,(a.2.2.1,(a.2.2.2.1,(a.2.2.2.2.1,()))))))))
def v60 (p:Prim):(LD×(LD×W45w))→Option ((LD×(LD×W45w))⊕W35w):=
 fun a=>let C:=p.eqN 0 0;let Q:=a.2.2.2.2.2.1;let U:=a.2.2.2.1;let M:=p.ofNat (p.len U);let E:=p.ar .rem .i64 Q M;let I:=p.eqN (p.len a.2.1) (p.len a.2.1);let K:=p.eqN (p.len a.1) (p.len a.1);let N:=(0:Int);let X:=[ci,ci,(CK.list 1),ci]; opt.run _ (
 opt.ask _ (p.cmp .lss Q (p.ofNat (p.len a.2.2.1))) (
 opt.bnd (W43w) _ (
 opt.run (W43w) (
 opt.ask _ (p.cmp .gtr M N) (
 opt.need _ (p.cmp .neq M N)<|
 opt.need _ (p.rowOk U (p.nat E) [(CK.int .u8)])<|
 opt.need _ (p.cmp .geq E N)<|
 opt.need _ (p.cmp .neq (3:Int) N)<|
 opt.need _ C<|
 opt.need _ K<|
 opt.need _ C<|
 opt.need _ I<|
 opt.ret _ (a.1,(a.2.1,(a.2.2.1,(U,(a.2.2.2.2.1,(Q,((p.ar .rem .u8 (p.rdI U (p.nat E) 0) (3:Int)),())))))))) (
 opt.need _ C<|
 opt.need _ K<|
 opt.need _ C<|
 opt.need _ I<|
 opt.ret _ (a.1,(a.2.1,(a.2.2.1,(U,(a.2.2.2.2.1,(Q,(N,())))))))))) fun b=>let V:=b.2.2.1;let G:=p.nat b.2.2.2.2.2.1;let B:=[[(D.int .i64 (p.rdI V G 0)),(D.int .i64 (p.rdI V G 1)),(D.list (p.rdF V G 2 1) 1 (p.rdL V G 2)),(D.int .i64 (p.rdI V G 3))]];let J:=p.len b.1;let P:=p.app (p.cut b.1 0 J) (p.cut B 0 1);let R:=p.len b.2.1;
 opt.bnd (W43w) _ (
 opt.run (W43w) (
 opt.ask _ (p.cmp .neq b.2.2.2.2.2.2.1 (1:Int)) (
 opt.need _ (p.rowOk V G X)<|
 opt.need _ (p.cmp .geq b.2.2.2.2.2.1 N)<|
 opt.need _ (p.and (p.leN (p.add 0 1) (p.len B)) (p.and (p.leN (p.add 0 J) J) (p.and (p.leN 1 1) (p.leN (p.add J 1) 1000000))))<|
 opt.need _ C<|
 opt.need _ (p.eqN (p.add J 1) (p.len P))<|
 opt.need _ C<|
 opt.need _ (p.eqN R R)<|
 opt.ret _ (P,b.2)) (
 opt.need _ C<|
 opt.need _ (p.eqN J J)<|
 opt.need _ C<|
 opt.need _ (p.eqN R R)<|
 opt.ret _ b))) fun c=>let S:=c.2.2.1;let Y:=c.2.2.2.2.2.1;let F:=p.nat Y;let A:=[[(D.int .i64 (p.rdI S F 0)),(D.int .i64 (p.rdI S F 1)),(D.list (p.rdF S F 2 1) 1 (p.rdL S F 2)),(D.int .i64 (p.rdI S F 3))]];let H:=p.len c.2.1;let L:=(S,(c.2.2.2.1,(c.2.2.2.2.1,(Y,()))));let O:=p.app (p.cut c.2.1 0 H) (p.cut A 0 1);let T:=p.eqN (p.len c.1) (p.len c.1);
 opt.bnd ((LD×(LD×W45w))) _ (
 opt.run ((LD×(LD×W45w))) (
 opt.ask _ (p.cmp .neq c.2.2.2.2.2.2.1 (2:Int)) (
 opt.need _ (p.rowOk S F X)<|
 opt.need _ (p.cmp .geq Y N)<|
 opt.need _ (p.and (p.leN (p.add 0 1) (p.len A)) (p.and (p.leN (p.add 0 H) H) (p.and (p.leN 1 1) (p.leN (p.add H 1) 1000000))))<|
 opt.need _ C<|
 opt.need _ T<|
 opt.need _ C<|
 opt.need _ (p.eqN (p.add H 1) (p.len O))<|
 opt.ret _ (c.1,(O,L))) (
 opt.need _ C<|
 opt.need _ T<|
 opt.need _ C<|
 opt.need _ (p.eqN H H)<|
 opt.ret _ (c.1,(c.2.1,L))))) fun d=>
 opt.need _ C<|
 opt.need _ (p.eqN (p.len d.1) (p.len d.1))<|
 opt.need _ C<|
 opt.need _ (p.eqN (p.len d.2.1) (p.len d.2.1))<|
 opt.ret _ (Sum.inl (d.1,(d.2.1,(d.2.2.1,(d.2.2.2.1,(d.2.2.2.2.1,((p.ar .add .i64 d.2.2.2.2.2.1 (1:Int)),())))))))) (
 opt.need _ C<|
 opt.need _ K<|
 opt.need _ C<|
 opt.need _ I<|
 opt.ret _ (Sum.inr (a.1,(a.2.1,(a.2.2.1,(a.2.2.2.2.1,())))))))
def G13:(p:Prim)→W55w→Option (W4w):=
 fun p x=>let J:=[ci,ci,(CK.list 1),ci];let L:=(0:Int);let A4:=p.leN (p.add 0 0) (p.len []);let A8:=p.eqN 0 0;let B4:=G16 p ();let B8:=p.and Bool.true Bool.true;
 opt.bnd ((LD×W29w)) _ (
 opt.run ((LD×W29w)) (
 opt.bnd (W4w) _ (G41 p (x.1,())) fun a=>
 opt.ask _ (bif a.1 then Bool.false else Bool.true) (
 opt.ret _ (x.1,(x.2.1,(x.2.2.1,(Bool.true,()))))) (
 opt.ret _ (x.1,(x.2.1,(x.2.2.1,((p.cmp .gtr (p.ofNat (p.len x.2.1)) (200:Int)),()))))))) fun b=>
 opt.ask _ b.2.2.2.1 (
 opt.bnd (W4w) _ B4 fun c=>
 opt.ret _ c) (
 opt.bnd (W35w) _ (
 z5q (v60 p) ([],([],(b.1,(b.2.1,(b.2.2.1,(L,()))))))) fun d=>let C2:=p.len d.2.1;
 opt.need _ (p.leN (p.add 0 (p.len d.1)) (p.len d.1))<|
 opt.need _ (p.leN (p.add 0 C2) C2)<|
 opt.bnd ((LD×(Int×W52w))) _ (
 z5q (v8b p) (d.2.2.1,(d.2.2.2.1,((p.cut d.1 0 (p.len d.1)),((p.cut d.2.1 0 C2),(Bool.true,(L,()))))))) fun e=>let B9:=(e.2.2.1,(e.2.2.2.1,()));
 opt.bnd (W18w) _ (G46 p B9) fun f=>let M:=(f.1,(e.1,(e.2.1,(e.2.2.1,(e.2.2.2.1,(f.2.1,(Bool.true,())))))));let P:=p.eqN (p.len f.1) (p.len f.1);
 opt.bnd ((LD×W41w)) _ (G48 p B9) fun g=>let X:=(f.1,(e.1,(e.2.1,(e.2.2.1,(e.2.2.2.1,(f.2.1,((p.cmp .neq (p.ofNat g.2.2.1) L),())))))));let B5:=p.cmp .neq g.2.2.2.1 (5:Int);
 opt.bnd ((LD×(LD×(Int×(LD×W29w))))) _ (
 opt.run ((LD×(LD×(Int×(LD×W29w))))) (
 opt.ask _ (p.cmp .neq f.2.1 L) (
 opt.ask _ (p.cmp .neq f.2.1 (16:Int)) (
 opt.need _ A8<|
 opt.need _ P<|
 opt.ret _ M) (
 opt.ask _ e.2.2.2.2.1 (
 opt.need _ A8<|
 opt.need _ P<|
 opt.ret _ M) (
 opt.ask _ B5 (
 opt.need _ A8<|
 opt.need _ P<|
 opt.ret _ M) (
 opt.need _ A8<|
 opt.need _ P<|
 opt.ret _ X)))) (
 opt.ask _ B5 (
 opt.need _ A8<|
 opt.need _ P<|
 opt.ret _ M) (
 opt.need _ A8<|
 opt.need _ P<|
 opt.ret _ X)))) fun h=>let Z:=(h.2.1,(h.2.2.1,(Bool.true,())));let A6:=p.cut h.1 0 (p.len h.1);
 opt.ask _ h.2.2.2.2.2.2.1 (
 opt.ret _ (Bool.false,())) (
 opt.need _ (p.leN (p.add 0 (p.len h.1)) (p.len h.1))<|
 opt.alt (W4w) (W18w) _ (
 opt.run ((W4w⊕W18w)) (
 opt.ask _ (p.cmp .eql h.2.2.2.2.2.1 L) (
 opt.bnd (W18w) _ (G29 p (h.2.1,())) fun i=>
 opt.bnd (W29w) _ (
 opt.run (W29w) (
 opt.ask _ (p.cmp .neq i.2.1 L) (
 opt.ret _ Z) (
 opt.need _ (p.and Bool.true (p.and (p.leN (p.add 0 (p.len i.1)) (p.len i.1)) Bool.true))<|
 opt.bnd (W4w) _ (G34 p (A6,((p.cut i.1 0 (p.len i.1)),()))) fun j=>
 opt.ask _ (bif j.1 then Bool.false else Bool.true) (
 opt.ret _ Z) (
 opt.bnd (W14w) _ (G52 p (A6,(h.2.2.2.1,()))) fun k=>
 opt.need _ (p.and (p.leN (p.add 0 (p.len k.1)) (p.len k.1)) B8)<|
 opt.bnd (W1w) _ (G35 p ((p.cut k.1 0 (p.len k.1)),(h.2.2.2.1,()))) fun l=>
 opt.ask _ (p.cmp .neq l.1 L) (
 opt.ret _ Z) (
 opt.bnd (W14w) _ (G52 p (A6,(h.2.2.2.2.1,()))) fun m=>
 opt.need _ (p.and (p.leN (p.add 0 (p.len m.1)) (p.len m.1)) B8)<|
 opt.bnd (W1w) _ (G35 p ((p.cut m.1 0 (p.len m.1)),(h.2.2.2.2.1,()))) fun n=>
 opt.ret _ (h.2.1,(h.2.2.1,((p.cmp .neq n.1 L),())))))))) fun o=>
 opt.ask _ o.2.2.1 (
 opt.ret _ (Sum.inl (Bool.false,()))) (
 opt.ret _ (Sum.inr (o.1,(o.2.1,()))))) (
 opt.ret _ (Sum.inr (h.2.1,(h.2.2.1,())))))) (fun q=>
 opt.ret _ q) (fun r=>
 opt.bnd (W18w) _ (some r) fun t=>let C1:=t.1;let B7:=p.len C1;let A7:=p.ar .sub .i64 (p.ofNat B7) (1:Int);let A:=p.ar .rem .i64 (p.cvt .i64 t.2.1) A7;let F:=p.splice [] (p.add 0 0) C1;let A5:=p.nat A;let K:=p.add 0 A5;let E:=p.ar .add .i64 A (1:Int);let A3:=p.nat E;let H:=p.add 0 A3;let R:=p.set F K [(D.int .i64 (p.rdI F H 0)),(D.int .i64 (p.rdI F H 1)),(D.list (p.rdF F H 2 1) 1 (p.rdL F H 2)),(D.int .i64 (p.rdI F H 3))];let B:=p.set R H [(D.int .i64 (p.rdI F K 0)),(D.int .i64 (p.rdI F K 1)),(D.list (p.rdF F K 2 1) 1 (p.rdL F K 2)),(D.int .i64 (p.rdI F K 3))];let G:=p.app (p.cut [] 0 0) C1;let Q:=p.set G K [(D.int .i64 (p.rdI G H 0)),(D.int .i64 (p.rdI G H 1)),(D.list (p.rdF G H 2 1) 1 (p.rdL G H 2)),(D.int .i64 (p.rdI G H 3))];let C:=p.set Q H [(D.int .i64 (p.rdI G K 0)),(D.int .i64 (p.rdI G K 1)),(D.list (p.rdF G K 2 1) 1 (p.rdL G K 2)),(D.int .i64 (p.rdI G K 3))];let I:=p.add 0 B7;let A9:=p.cmp .geq E L;let N:=bif A9 then (p.cmp .lss E (p.ofNat I)) else Bool.false;let Y:=p.cmp .geq A L;let O:=bif Y then (p.cmp .lss A (p.ofNat I)) else Bool.false;let B6:=[(D.int .i64 (p.rdI C1 A5 0))];let S:=([B6,[(D.int .i64 (p.rdI C1 A3 0))],B6],());let V:=p.rowOk C1 A5 J;let B1:=p.cut C 0 I;let B2:=p.cut B 0 I;let B3:=p.rowOk C1 A3 J;
 opt.ask _ (p.cmp .lss (p.ofNat B7) (2:Int)) (
 opt.bnd (W4w) _ B4 fun u=>
 opt.ret _ u) (
 opt.need _ (p.cmp .neq A7 L)<|
 opt.need _ V<|
 opt.need _ Y<|
 opt.need _ B3<|
 opt.need _ A9<|
 opt.bnd (W4w) _ (G44 p ((p.rdI C1 A5 0),((p.rdI C1 A5 1),((p.rdL C1 A5 2),((p.rdI C1 A5 3),((p.rdI C1 A3 0),((p.rdI C1 A3 1),((p.rdL C1 A3 2),((p.rdI C1 A3 3),()))))))))) fun v=>
 opt.ask _ (bif v.1 then Bool.false else Bool.true) (
 opt.bnd (W4w) _ B4 fun w=>
 opt.ret _ w) (
 opt.ask _ (p.leN I 0) (
 opt.need _ (p.and Bool.true (p.and A4 A4))<|
 opt.need _ N<|
 opt.need _ (p.rowOk F H J)<|
 opt.need _ O<|
 opt.need _ (p.rowOk F K J)<|
 opt.need _ O<|
 opt.need _ (p.rowOk F K J)<|
 opt.need _ N<|
 opt.need _ (p.rowOk R H J)<|
 opt.need _ (p.leN (p.add 0 I) (p.len B))<|
 opt.bnd (W18w) _ (G46 p (C1,(B2,()))) fun z=>
 opt.bnd ((LD×W41w)) _ (G48 p (C1,(B2,()))) fun a1=>let U:=p.and Bool.true (p.and Bool.true (p.and (p.leN (p.add a1.2.1 a1.2.2.1) (p.len a1.1)) Bool.true));let A2:=(C1,(B2,((p.cut a1.1 a1.2.1 a1.2.2.1),())));
 opt.ask _ (p.cmp .eql z.2.1 (24:Int)) (
 opt.ask _ (p.cmp .eql a1.2.2.2.1 L) (
 opt.need _ U<|
 opt.bnd (W1w) _ (G50 p A2) fun b1=>
 opt.ask _ (p.cmp .eql b1.1 L) (
 opt.need _ U<|
 opt.bnd (W1w) _ (G51 p A2) fun c1=>
 opt.ask _ (p.cmp .eql c1.1 L) (
 opt.need _ V<|
 opt.need _ Y<|
 opt.need _ B3<|
 opt.need _ A9<|
 opt.need _ V<|
 opt.need _ Y<|
 opt.bnd (W1w) _ (G50 p (C1,(B2,S))) fun d1=>
 opt.ask _ (p.cmp .eql d1.1 L) (
 opt.bnd (W4w) _ B4 fun e1=>
 opt.ret _ e1) (
 opt.ret _ (Bool.false,()))) (
 opt.ret _ (Bool.false,()))) (
 opt.ret _ (Bool.false,()))) (
 opt.ret _ (Bool.false,()))) (
 opt.ret _ (Bool.false,()))) (
 opt.need _ (p.and Bool.true (p.and A4 (p.and (p.leN 1 B7) (p.leN I 1000000))))<|
 opt.need _ N<|
 opt.need _ (p.rowOk G H J)<|
 opt.need _ O<|
 opt.need _ (p.rowOk G K J)<|
 opt.need _ O<|
 opt.need _ (p.rowOk G K J)<|
 opt.need _ N<|
 opt.need _ (p.rowOk Q H J)<|
 opt.need _ (p.leN (p.add 0 I) (p.len C))<|
 opt.bnd (W18w) _ (G46 p (C1,(B1,()))) fun f1=>
 opt.bnd ((LD×W41w)) _ (G48 p (C1,(B1,()))) fun g1=>let T:=p.and Bool.true (p.and Bool.true (p.and (p.leN (p.add g1.2.1 g1.2.2.1) (p.len g1.1)) Bool.true));let A1:=(C1,(B1,((p.cut g1.1 g1.2.1 g1.2.2.1),())));
 opt.ask _ (p.cmp .eql f1.2.1 (24:Int)) (
 opt.ask _ (p.cmp .eql g1.2.2.2.1 L) (
 opt.need _ T<|
 opt.bnd (W1w) _ (G50 p A1) fun h1=>
 opt.ask _ (p.cmp .eql h1.1 L) (
 opt.need _ T<|
 opt.bnd (W1w) _ (G51 p A1) fun i1=>
 opt.ask _ (p.cmp .eql i1.1 L) (
 opt.need _ V<|
 opt.need _ Y<|
 opt.need _ B3<|
 opt.need _ A9<|
 opt.need _ V<|
 opt.need _ Y<|
 opt.bnd (W1w) _ (G50 p (C1,(B1,S))) fun j1=>
 opt.ask _ (p.cmp .eql j1.1 L) (
 opt.bnd (W4w) _ B4 fun k1=>
 opt.ret _ k1) (
 opt.ret _ (Bool.false,()))) (
 opt.ret _ (Bool.false,()))) (
 opt.ret _ (Bool.false,()))) (
 opt.ret _ (Bool.false,()))) (
 opt.ret _ (Bool.false,()))))))))
theorem ok13:CtrOk PG u8f (G13 std):=okF vE (a:=an13) (l:=la13) (gC ok52 (gC ok29 (gC ok48 (gC ok46 (gC ok51 (gC ok50 (gC ok35 (gC ok34 (gC u9g (gC u5i (gC ok16 (gC ok41 (gN)))))))))))))
end Go.Am
end
section
namespace Go.Am
namespace D12
structure Sg where
 a:Nat
 b:Nat
 ha:a<2 ^ 64
 hb:b<2 ^ 64
def Sg.has (s:Sg) (i:Nat):Bool:=if i<64 then s.a.testBit i else s.b.testBit (i - 64)
def Sg.none:Sg:=⟨0,0,by omega,by omega⟩
def Sg.wth (s:Sg) (k:Nat):Sg:=
 if h:k<64 then ⟨s.a|||2 ^ k,s.b,Nat.or_lt_two_pow s.ha (eDz (by omega) h),s.hb⟩
 else if h:k<128 then ⟨s.a,s.b|||2 ^ (k - 64),s.ha,Nat.or_lt_two_pow s.hb (eDz (by omega) (by omega))⟩
 else s
def Sg.or (s t:Sg):Sg:=⟨s.a|||t.a,s.b|||t.b,Nat.or_lt_two_pow s.ha t.ha,Nat.or_lt_two_pow s.hb t.hb⟩
def Sg.and (s t:Sg):Sg:=⟨s.a&&&t.a,s.b&&&t.b,Nat.lt_of_le_of_lt Nat.and_le_left s.ha,Nat.lt_of_le_of_lt Nat.and_le_left s.hb⟩
theorem Sg.has_none (i:Nat):Sg.none.has i=false:=by
 unfold Sg.has Sg.none; split<;>exact Nat.zero_testBit _
theorem Sg.has_wth (s:Sg) {k:Nat} (hk:k<128) (i:Nat):(s.wth k).has i=(s.has i||decide (i=k)):=by
 unfold Sg.wth
 by_cases h:k<64
 ·rw [dif_pos h]
  unfold Sg.has
  simp only
  by_cases hi:i<64
  ·rw [if_pos hi,if_pos hi,Nat.testBit_or,Nat.testBit_two_pow]
   congr 1
   exact decide_eq_decide.2 ⟨fun h=>h.symm,fun h=>h.symm⟩
  ·rw [if_neg hi,if_neg hi]
   have:¬ i=k:=by omega
   simp [this]
 ·rw [dif_neg h,dif_pos hk]
  unfold Sg.has
  simp only
  by_cases hi:i<64
  ·rw [if_pos hi,if_pos hi]
   have:¬ i=k:=by omega
   simp [this]
  ·rw [if_neg hi,if_neg hi,Nat.testBit_or,Nat.testBit_two_pow]
   congr 1
   exact decide_eq_decide.2 (by omega)
theorem Sg.has_or (s t:Sg) (i:Nat):(s.or t).has i=(s.has i||t.has i):=by
 unfold Sg.has Sg.or
 simp only
 split<;>exact Nat.testBit_or ..
theorem Sg.has_and (s t:Sg) (i:Nat):(s.and t).has i=(s.has i&&t.has i):=by
 unfold Sg.has Sg.and
 simp only
 split<;>exact Nat.testBit_and ..
theorem Sg.ext_has {s t:Sg} (h:∀ i,i<128→s.has i=t.has i):s.a=t.a∧s.b=t.b:=by
 constructor
 ·refine Nat.eq_of_testBit_eq fun i=>?_
  by_cases hi:i<64
  ·have:=h i (by omega)
   unfold Sg.has at this
   rwa [if_pos hi,if_pos hi] at this
  ·have p:2 ^ 64≤2 ^ i:=Nat.pow_le_pow_right (by omega) (by omega)
   rw [Nat.testBit_lt_two_pow (eAn s.ha p),Nat.testBit_lt_two_pow (eAn t.ha p)]
 ·refine Nat.eq_of_testBit_eq fun i=>?_
  by_cases hi:i<64
  ·have:=h (i+64) (by omega)
   unfold Sg.has at this
   rwa [if_neg (by omega),if_neg (by omega),Nat.add_sub_cancel] at this
  ·have p:2 ^ 64≤2 ^ i:=Nat.pow_le_pow_right (by omega) (by omega)
   rw [Nat.testBit_lt_two_pow (eAn s.hb p),Nat.testBit_lt_two_pow (eAn t.hb p)]
theorem Sg.and_sub {s t:Sg}:((s.and t).a=s.a∧(s.and t).b=s.b)↔∀ i,i<128→s.has i=true→t.has i=true:=by
 constructor
 ·rintro ⟨h1,h2⟩ i hi h
  have e:(s.and t).has i=s.has i:=by unfold Sg.has; rw [h1,h2]
  rw [Sg.has_and,h] at e
  simpa using e
 ·intro h
  refine Sg.ext_has fun i hi=>?_
  rw [Sg.has_and]
  cases hs:s.has i with
  |false=>rfl
  |true=>rw [h i hi hs]; rfl
end D12
theorem v44 {n:Nat} (h:n<2 ^ 64):IntKind.u64.wrap (n:Int)=(n:Int):=by
 have e:IntKind.u64.wrap (n:Int)=(n:Int) % 18446744073709551616:=by
  unfold IntKind.wrap
  simp [IntKind.signed,IntKind.bits]
 rw [e]
 omega
theorem ofI (n:Nat):BitVec.ofInt 64 (n:Int)=BitVec.ofNat 64 n:=by simp
theorem u5g {a b:Nat} (ha:a<2 ^ 64) (hb:b<2 ^ 64):std.ar .or .u64 (a:Int) (b:Int)=((a|||b:Nat):Int):=by
 show IntKind.u64.wrap (((BitVec.ofInt 64 (a:Int)|||BitVec.ofInt 64 (b:Int)).toNat:Nat):Int)=_
 rw [ofI,ofI,BitVec.toNat_or,BitVec.toNat_ofNat,BitVec.toNat_ofNat,eCy ha,eCy hb,v44 (Nat.or_lt_two_pow ha hb)]
theorem u0r {a b:Nat} (ha:a<2 ^ 64) (hb:b<2 ^ 64):std.ar .and .u64 (a:Int) (b:Int)=((a&&&b:Nat):Int):=by
 show IntKind.u64.wrap (((BitVec.ofInt 64 (a:Int)&&&BitVec.ofInt 64 (b:Int)).toNat:Nat):Int)=_
 rw [ofI,ofI,BitVec.toNat_and,BitVec.toNat_ofNat,BitVec.toNat_ofNat,eCy ha,eCy hb,v44 (Nat.lt_of_le_of_lt Nat.and_le_left ha)]
theorem u2p {i:Nat} (h:i<64):std.ar .shl .u64 1 (i:Int)=((2 ^ i:Nat):Int):=by
 show IntKind.u64.wrap (1*2 ^ (min ((i:Int)).toNat 64))=_
 have:min ((i:Int)).toNat 64=i:=by omega
 rw [this,Int.one_mul]
 have e:((2:Int) ^ i)=((2 ^ i:Nat):Int):=by simp
 rw [e,v44 (eDz (by omega) h)]
theorem u2q {a i:Nat} (ha:a<2 ^ 64) (h:i<64):std.cmp .eql (std.ar .and .u64 (std.ar .shr .u64 (a:Int) (i:Int)) 1) 1=a.testBit i:=by
 have e1:std.ar .shr .u64 (a:Int) (i:Int)=((a / 2 ^ i:Nat):Int):=by
  show Int.fdiv (a:Int) (2 ^ (min ((i:Int)).toNat 64))=_
  have:min ((i:Int)).toNat 64=i:=by omega
  rw [this]
  have e:((2:Int) ^ i)=((2 ^ i:Nat):Int):=by simp
  rw [e,Int.fdiv_eq_ediv_of_nonneg _ (Int.natCast_nonneg _)]
  exact (Int.natCast_ediv ..).symm
 have hd:a / 2 ^ i<2 ^ 64:=Nat.lt_of_le_of_lt (Nat.div_le_self ..) ha
 rw [e1,show (1:Int)=((1:Nat):Int) from rfl,u0r hd (by omega),Nat.and_one_is_mod,v47,Nat.testBit_eq_decide_div_mod_eq]
 exact decide_eq_decide.2 (by omega)
theorem u2z {i:Nat} (h:i<128):std.ar .quo .i64 (i:Int) 64=if i<64 then 0 else 1:=by
 rw [v6g,Int.tdiv_eq_ediv_of_nonneg (by omega),w2o _ (by omega) (by omega)]
 split<;>omega
theorem u2y {i:Nat} (h:i<128):std.ar .rem .i64 (i:Int) 64=((if i<64 then i else i - 64:Nat):Int):=by
 rw [v25,eDu (by omega)]
 split<;>omega
end Go.Am
end
section
namespace Go.Am
section
variable {κ ν:Type} [DecidableEq κ]
def v43:List (κ×ν)→κ→Nat→Option (Nat×ν)
 |[],_,_=>none
 |(k',v)::r,k,i=>if k=k' then some (i,v) else v43 r k (i+1)
def z26:List (κ×ν)→κ→Option ν
 |[],_=>none
 |(k',v)::r,k=>if k=k' then some v else z26 r k
def u1y:List (κ×ν)→κ→ν→List (κ×ν)
 |[],_,_=>[]
 |(k',w)::r,k,v=>if k=k' then (k,v)::r else (k',w)::u1y r k v
def v8e:List (κ×ν)→κ→List (κ×ν)
 |[],_=>[]
 |(k',w)::r,k=>if k=k' then r else (k',w)::v8e r k
def v42 (m:List (κ×ν)) (k:κ) (v:ν):List (κ×ν):=match z26 m k with
 |some _=>u1y m k v
 |none=>m++[(k,v)]
theorem v22 (k:κ):∀ (m:List (κ×ν)) (i:Nat),(v43 m k i).map (·.2)=z26 m k
 |[],i=>rfl
 |(k',v)::r,i=>by
  simp only [v43,z26]
  split
  ·rfl
  ·exact v22 k r (i+1)
theorem v5l {k:κ}:∀ {m:List (κ×ν)} {i j:Nat} {v:ν},v43 m k i=some (j,v)→i≤j∧j<i+m.length
 |(k',w)::r,i,j,v,h=>by
  simp only [v43] at h
  split at h
  ·cases h; simp
  ·have:=v5l h; simp only [eBi]; omega
theorem v6a {k:κ}:∀ {m:List (κ×ν)} {i j:Nat} {v:ν},v43 m k i=some (j,v)→∀ w,m.set (j - i) (k,w)=u1y m k w
 |(k',u)::r,i,j,v,h,w=>by
  simp only [v43] at h
  simp only [u1y]
  split at h
  ·rename_i e; cases h; rw [if_pos e,Nat.sub_self]; rfl
  ·rename_i e
   have:=v5l h
   rw [if_neg e, ←v6a h w]
   have:j - i=(j - (i+1))+1:=by omega
   rw [this]; rfl
theorem v6b {k:κ}:∀ {m:List (κ×ν)} {i j:Nat} {v:ν},v43 m k i=some (j,v)→m.eraseIdx (j - i)=v8e m k
 |(k',u)::r,i,j,v,h=>by
  simp only [v43] at h
  simp only [v8e]
  split at h
  ·rename_i e; cases h; rw [if_pos e,Nat.sub_self]; rfl
  ·rename_i e
   have:=v5l h
   rw [if_neg e, ←v6b h]
   have:j - i=(j - (i+1))+1:=by omega
   rw [this]; rfl
theorem v58 (k:κ) (v:ν) (k':κ):∀ m:List (κ×ν),z26 (u1y m k v) k'=if k'=k then (z26 m k).map fun _=>v else z26 m k'
 |[]=>by simp [u1y,z26]
 |(x,w)::r=>by
  have ih:=v58 k v k' r
  simp only [u1y]
  by_cases h:k=x
  ·rw [if_pos h]; subst h
   by_cases h':k'=k
   ·simp [z26,h']
   ·simp [z26,h']
  ·rw [if_neg h]
   simp only [z26]
   rw [ih]
   by_cases h':k'=x
   ·subst h'
    rw [if_pos rfl,if_neg (fun e=>h e.symm)]
    simp
   ·rw [if_neg h']
    by_cases h'':k'=k
    ·subst h''; rw [if_pos rfl,if_pos rfl,if_neg h]
    ·rw [if_neg h'',if_neg h'',if_neg h']
theorem v3t (k':κ) (l:List (κ×ν)):∀ m:List (κ×ν),z26 (m++l) k'=(z26 m k').or (z26 l k')
 |[]=>by simp [z26]
 |(x,w)::r=>by
  simp only [List.cons_append,z26,v3t k' l r]
  split<;>rfl
theorem v20 (m:List (κ×ν)) (k:κ) (v:ν) (k':κ):z26 (v42 m k v) k'=if k'=k then some v else z26 m k':=by
 unfold v42
 cases h:z26 m k with
 |some w=>simp only [v58,h,eBh]
 |none=>
  simp only [v3t,z26]
  by_cases e:k'=k
  ·subst e; simp [h]
  ·simp [e]
theorem v21 {k:κ}:∀ {m:List (κ×ν)},z26 m k=none↔k∉m.map (·.1)
 |[]=>by simp [z26]
 |(x,w)::r=>by
  simp only [z26,List.map_cons,eAz,not_or]
  split
  ·rename_i h; simp [h]
  ·rename_i h; simp only [v21 (m:=r)]; simp [h]
theorem v6c (k:κ):∀ (m:List (κ×ν)),((v8e m k).map (·.1)).Sublist (m.map (·.1))
 |[]=> .slnil
 |(x,w)::r=>by
  simp only [v8e]
  split
  ·exact List.sublist_cons_self _ _
  ·exact (v6c k r).cons_cons _
theorem v59 {k:κ} (k':κ):∀ {m:List (κ×ν)},(m.map (·.1)).Nodup→z26 (v8e m k) k'=if k'=k then none else z26 m k'
 |[],_=>by simp [v8e,z26]
 |(x,w)::r,h=>by
  simp only [List.map_cons,eDl] at h
  have ih:=v59 (k:=k) k' h.2
  simp only [v8e]
  by_cases e:k=x
  ·rw [if_pos e]; subst e
   simp only [z26]
   by_cases e':k'=k
   ·subst e'; rw [if_pos rfl]; exact v21.2 h.1
   ·rw [if_neg e',if_neg e']
  ·rw [if_neg e]
   simp only [z26,ih]
   by_cases e':k'=x
   ·subst e'; rw [if_pos rfl,if_neg (fun h=>e h.symm),if_pos rfl]
   ·rw [if_neg e',if_neg e']
end
structure v61 (κ ν:Type) where
 ke:κ→D
 ve:ν→D
 ks:List SK
 ka:Bool
 va:Bool
 ck:List CK
structure v61.Ok {κ ν:Type} [DecidableEq κ] (E:v61 κ ν):Prop where
 agg:∀ k,z1h (E.ke k)=E.ka
 kinds:∀ k,z04 E.ks (z0q (E.ke k))=true
 eq:∀ a b,z9b E.ks (z0q (E.ke a)) (z0q (E.ke b))=some (decide (a=b))
 vagg:∀ v,z1h (E.ve v)=E.va
 vok:∀ v,z3i E.ck (z0q (E.ve v))=true
def v61.enc {κ ν:Type} (E:v61 κ ν) (m:List (κ×ν)):List (D×D):=m.map fun e=>(E.ke e.1,E.ve e.2)
section
variable {κ ν:Type} [DecidableEq κ] {E:v61 κ ν} (h:E.Ok)
include h
theorem v3n (k:κ):∀ (m:List (κ×ν)) (i:Nat),x0d E.ks E.ka (E.ke k) (E.enc m) i=some ((v43 m k i).map fun x=>(x.1,E.ve x.2))
 |[],i=>rfl
 |(k',v)::r,i=>by
  have ih:=v3n k r (i+1)
  unfold v61.enc at ih⊢
  simp only [List.map_cons,x0d,h.agg,beq_self_eq_true,eDc,cond_true,h.eq,v43]
  by_cases e:k=k'
  ·simp [e]
  ·simp [e,ih]
theorem v7f (m:List (κ×ν)) (k:κ):std.mOk (E.enc m) E.ks E.ka (E.ke k) E.va E.ck=true:=by
 show ((z1h (E.ke k)==E.ka)&&z04 E.ks (z0q (E.ke k))&&match x0d E.ks E.ka (E.ke k) (E.enc m) 0 with|some none=>true|some (some (_,v))=>(z1h v==E.va)&&z3i E.ck (z0q v)|none=>false)=true
 rw [v3n h,h.agg,h.kinds]
 cases v43 m k 0 with
 |none=>simp
 |some x=>simp [h.vagg,h.vok]
theorem v3e (m:List (κ×ν)) (k:κ):w39 (E.enc m) E.ks E.ka (E.ke k)=(v43 m k 0).map fun x=>(x.1,E.ve x.2):=by
 unfold w39; rw [v3n h]; rfl
theorem v5v (m:List (κ×ν)) (k:κ):std.mhas (E.enc m) E.ks E.ka (E.ke k)=(z26 m k).isSome:=by
 show (w39 _ _ _ _).isSome=_
 rw [v3e h, ←v22 k m 0]; simp
theorem v4n (m:List (κ×ν)) (k:κ) (j:Nat) {v:ν} (hv:z26 m k=some v):x19 (E.enc m) E.ks E.ka (E.ke k) j=((z0q (E.ve v))[j]?).getD .nilp:=by
 unfold x19
 rw [v3e h]
 rw [←v22 k m 0] at hv
 cases ha:v43 m k 0 with
 |none=>rw [ha] at hv; cases hv
 |some x=>rw [ha] at hv; cases hv; rfl
theorem v5x (m:List (κ×ν)) (k:κ) (j:Nat) {v:ν} (hv:z26 m k=some v):std.mI (E.enc m) E.ks E.ka (E.ke k) j=dI (((z0q (E.ve v))[j]?).getD .nilp):=by
 show dI (x19 _ _ _ _ _)=_
 rw [v4n h m k j hv]
theorem v8r (m:List (κ×ν)) (k:κ) {v:ν} (hv:z26 m k=some v) (w:ν):std.mset (E.enc m) (std.nat (std.ofNat (std.mpos (E.enc m) E.ks E.ka (E.ke k)))) (E.ke k) (E.ve w)=E.enc (v42 m k w):=by
 show (E.enc m).set (Int.toNat ((((w39 (E.enc m) E.ks E.ka (E.ke k)).map (·.1)).getD 0:Nat):Int)) (E.ke k,E.ve w)=_
 rw [v3e h]
 have hv':=hv
 rw [←v22 k m 0] at hv
 cases ha:v43 m k 0 with
 |none=>rw [ha] at hv; cases hv
 |some x=>
  obtain ⟨j,u⟩:=x
  simp only [eBh,eBk,eCh,v42,hv',v61.enc]
  rw [←v6a ha w,Nat.sub_zero,List.map_set]
theorem v5w (m:List (κ×ν)) (k:κ) (hv:z26 m k=none) (w:ν):std.madd (E.enc m) (E.ke k) (E.ve w)=E.enc (v42 m k w):=by
 show E.enc m++[(E.ke k,E.ve w)]=_
 simp [v42,hv,v61.enc]
theorem v8t (m:List (κ×ν)) (k:κ) {v:ν} (hv:z26 m k=some v):std.mdel (E.enc m) (std.nat (std.ofNat (std.mpos (E.enc m) E.ks E.ka (E.ke k))))=E.enc (v8e m k):=by
 show (E.enc m).eraseIdx (Int.toNat ((((w39 (E.enc m) E.ks E.ka (E.ke k)).map (·.1)).getD 0:Nat):Int))=_
 rw [v3e h]
 rw [←v22 k m 0] at hv
 cases ha:v43 m k 0 with
 |none=>rw [ha] at hv; cases hv
 |some x=>
  obtain ⟨j,u⟩:=x
  simp only [eBh,eBk,eCh,v61.enc]
  rw [←v6b ha,Nat.sub_zero]
  apply eBd
  intro i
  simp only [List.getElem?_eraseIdx,eAg]
  split<;>rfl
end
end Go.Am
end
section
namespace Go.Am
open D12
variable {fl fl':List Int→Bool}
theorem v23 (s:Sg) (i:Nat) (h:i<128):G74 std ((s.a:Int),((s.b:Int),((i:Int),())))=some (s.has i,()):=by
 have q:=u2z h
 have r:=u2y h
 unfold G74 Sg.has
 by_cases h6:i<64
 ·rw [if_pos h6] at q r⊢
  have hb:=u2q s.ha h6
  rw [v47] at hb
  have r0:(0:Int)≤((i:Nat):Int):=by omega
  simp [z2c,z2d,z38,Int.reduceLT,Int.reduceEq,Int.reduceLE,q,r,hb,r0]
 ·rw [if_neg h6] at q r⊢
  have hb:=u2q s.hb (show i - 64<64 by omega)
  rw [v47] at hb
  have r0:(0:Int)≤((i - 64:Nat):Int):=by omega
  simp [z2c,z2d,z38,Int.reduceLT,Int.reduceEq,Int.reduceLE,q,r,hb,r0]
theorem v8i (s:Sg) (i:Nat) (h:i<128):G72 std ((s.a:Int),((s.b:Int),((i:Int),())))=some (((s.wth i).a:Int),(((s.wth i).b:Int),())):=by
 have q:=u2z h
 have r:=u2y h
 unfold G72 Sg.wth
 by_cases h6:i<64
 ·rw [if_pos h6] at q r
  rw [dif_pos h6]
  have hb:=u5g s.ha (eDz (by omega) h6:2 ^ i<2 ^ 64)
  have hs:=u2p h6
  have r0:(0:Int)≤((i:Nat):Int):=by omega
  have t0:(0:Int)<((2:Nat):Int):=by omega
  have t1:(1:Int)<((2:Nat):Int):=by omega
  simp only [z2c,z2d,z38,Int.reduceLT,Int.reduceEq,Int.reduceLE,q,r,hs,hb,r0,t0,t1]
 ·rw [if_neg h6] at q r
  rw [dif_neg h6,dif_pos h]
  have h7:i - 64<64:=by omega
  have hb:=u5g s.hb (eDz (by omega) h7:2 ^ (i - 64)<2 ^ 64)
  have hs:=u2p h7
  have r0:(0:Int)≤((i - 64:Nat):Int):=by omega
  have t0:(0:Int)<((2:Nat):Int):=by omega
  have t1:(1:Int)<((2:Nat):Int):=by omega
  simp only [z2c,z2d,z38,Int.reduceLT,Int.reduceEq,Int.reduceLE,q,r,hs,hb,r0,t0,t1]
theorem u8i (a b c d e f:Int):v9b std (a,(b,(c,(d,(e,(f,((0:Int),())))))))=some (.inl (std.ar .or .u64 a c,(b,(c,(d,(e,(f,((1:Int),())))))))):=rfl
theorem u8h (a b c d e f:Int):v9b std (a,(b,(c,(d,(e,(f,((1:Int),())))))))=some (.inl (a,(std.ar .or .u64 b d,(c,(d,(e,(f,((2:Int),())))))))):=rfl
theorem u8g (a b c d e f:Int):v9b std (a,(b,(c,(d,(e,(f,((2:Int),())))))))=some (.inr (a,(b,(e,(f,()))))):=rfl
theorem u4s (s t:Sg):G73 std ((s.a:Int),((s.b:Int),((t.a:Int),((t.b:Int),()))))=some (((s.or t).a:Int),(((s.or t).b:Int),())):=by
 unfold G73
 rw [z7l,u8i]
 simp only []
 rw [z7l,u8h]
 simp only []
 rw [z7l,u8g,u5g s.ha t.ha,u5g s.hb t.hb]
 rfl
theorem u4h (a b c d e f:Int):v54 std (a,(b,(c,(d,(e,(f,((0:Int),())))))))=some (.inl (std.ar .and .u64 a c,(b,(c,(d,(e,(f,((1:Int),())))))))):=rfl
theorem u4g (a b c d e f:Int):v54 std (a,(b,(c,(d,(e,(f,((1:Int),())))))))=some (.inl (a,(std.ar .and .u64 b d,(c,(d,(e,(f,((2:Int),())))))))):=rfl
theorem u4f (a b c d e f:Int):v54 std (a,(b,(c,(d,(e,(f,((2:Int),())))))))=some (.inr (a,(b,(e,(f,()))))):=rfl
theorem v8k (s t:Sg):u2c std ((s.a:Int),((s.b:Int),((t.a:Int),((t.b:Int),()))))=some (((s.and t).a:Int),(((s.and t).b:Int),())):=by
 unfold u2c
 rw [z7l,u4h]
 simp only []
 rw [z7l,u4g]
 simp only []
 rw [z7l,u4f,u0r s.ha t.ha,u0r s.hb t.hb]
 rfl
theorem u2f (l:List Int) (h1:1≤l.length) (h2:l.length≤1000000):u5d std (z09 l,())=some (z09 l,()):=by
 unfold u5d
 have e0:(z09 l).length=l.length:=z00 l
 have h3:¬ l.length≤0:=by omega
 have h4:(z09 l).take l.length=z09 l:=by rw [←e0,eDf]
 simp only [z2c,z2d,z38,Int.reduceLT,Int.reduceEq,Int.reduceLE,e0,h1,h2,h3,List.take_nil,List.drop_nil,List.nil_append,eDd,eAp,eAk,eAt,h4]
theorem u4r (c:Cd) (h1:1≤c.t.length) (h2:c.t.length≤1000000):G75 std (c.n,(c.k,(z09 c.t,(c.a,()))))=some (c.n,(c.k,(z09 c.t,(c.a,())))):=by
 unfold G75
 have:=u2f c.t h1 h2
 simp only [z2c,z2d,this]
def eS (s:Sg):List D:=[.int .u64 (s.a:Int), .int .u64 (s.b:Int)]
def z23 (l:List Sg):List (List D):=l.map eS
theorem v4d (l:List Sg):(z23 l).length=l.length:=by simp [z23]
theorem z24 (s:Sg):z3i [CK.int IntKind.u64,CK.int IntKind.u64] (eS s)=true:=rfl
theorem z36 (s:Sg):dI ((eS s)[0]?.getD D.nilp)=(s.a:Int):=rfl
theorem z35 (s:Sg):dI ((eS s)[1]?.getD D.nilp)=(s.b:Int):=rfl
theorem v5y (l:List Sg) (i:Nat) (s:Sg):(z23 l).set i (eS s)=z23 (l.set i s):=by simp [z23,List.map_set]
def EX:v61 Int Nat:=⟨fun k=> .int .i64 k,fun v=> .int .i64 (v:Int),[.i],false,false,[.int .i64]⟩
theorem v8o:EX.Ok where
 agg _:=rfl
 kinds _:=rfl
 eq:=fun a b=>by
  show (bif IntKind.i64==IntKind.i64 then (some (z3l .eql a b&&true)) else none)=_
  rw [eCc]; rfl
 vagg _:=rfl
 vok _:=rfl
def z46 (m:List (Int×Nat)):List (D×D):=EX.enc m
section
variable (m:List (Int×Nat)) (x:Int)
theorem v8p:std.mOk (z46 m) [SK.i] false (.int .i64 x) false [.int .i64]=true:=v7f v8o m x
theorem v3y:std.mhas (z46 m) [SK.i] false (.int .i64 x)=(z26 m x).isSome:=v5v v8o m x
variable {m x}
theorem v9w {v:Nat} (h:z26 m x=some v):std.mI (z46 m) [SK.i] false (.int .i64 x) 0=(v:Int):=v5x v8o m x 0 h
theorem u8w {v:Nat} (h:z26 m x=some v) (w:Nat):std.mset (z46 m) (std.mpos (z46 m) [SK.i] false (.int .i64 x)) (.int .i64 x) (.int .i64 (w:Int))=z46 (v42 m x w):=v8r v8o m x h w
theorem u1z (h:z26 m x=none) (w:Nat):std.madd (z46 m) (.int .i64 x) (.int .i64 (w:Int))=z46 (v42 m x w):=v5w v8o m x h w
end
end Go.Am
end
section
namespace Go.Am
theorem v2p {S R τ α:Type} {b:S→Option (S⊕R)} (l:List α) (e:τ→Nat→S) (f:τ→α→τ) (I:τ→Nat→Prop) (r:τ→R)
  (step:∀ t i x,l[i]?=some x→I t i→b (e t i)=some (.inl (e (f t x) (i+1)))∧I (f t x) (i+1))
  (stop:∀ t,I t l.length→b (e t l.length)=some (.inr (r t))) (t:τ) (h:I t 0):z5q b (e t 0)=some (r (l.foldl f t))∧I (l.foldl f t) l.length:=by
 have key:∀ (q:List α) (i:Nat) (t:τ),l.drop i=q→i≤l.length→I t i→z5q b (e t i)=some (r (q.foldl f t))∧I (q.foldl f t) l.length:=by
  intro q
  induction q with
  |nil=>
   intro i t hq hi hI
   have:i=l.length:=by have:=List.drop_eq_nil_iff.1 hq; omega
   subst this
   rw [z7l,stop t hI]
   exact ⟨rfl,hI⟩
  |cons x q ih=>
   intro i t hq hi hI
   have hx:l[i]?=some x:=by rw [←List.head?_drop,hq]; rfl
   have hlt:i<l.length:=(eAd.1 hx).1
   obtain ⟨h1,h2⟩:=step t i x hx hI
   have hq':l.drop (i+1)=q:=by rw [←eCw,hq]; rfl
   rw [z7l,h1]
   exact ih (i+1) (f t x) hq' hlt h2
 exact key l 0 t rfl (eAv _) h
namespace D12
def v3x (g:List Cd) (c:Cd):List Cd:=if (g.any fun d=>decide (d.n=c.n))=true then g else g++[c]
def z37 (dks:List (List Cd)):List Cd:=dks.foldl (fun g l=>l.foldl v3x g) []
def ixM (g:List Cd):List (Int×Nat):=(g.map (·.n)).zipIdx
def gi (g:List Cd) (c:Cd):Nat:=(g.map (·.n)).idxOf c.n
theorem v4h (x:Int):∀ (l:List Int) (k:Nat),z26 (l.zipIdx k) x=if x∈l then some (k+l.idxOf x) else none
 |[],k=>by simp [z26]
 |y::l,k=>by
  rw [List.zipIdx_cons]
  simp only [z26,v4h x l (k+1),eAz,List.idxOf_cons]
  by_cases h:x=y
  ·subst h; simp
  ·have h':(y==x)=false:=by simpa using fun e=>h e.symm
   simp only [h,if_false,false_or,h',cond_false]
   split
   ·simp; omega
   ·rfl
theorem v91 (g:List Cd) (x:Int):z26 (ixM g) x=if x∈g.map (·.n) then some ((g.map (·.n)).idxOf x) else none:=by
 unfold ixM; rw [v4h]; simp
theorem v7k {g:List Cd} {c:Cd} (h:c∈g):z26 (ixM g) c.n=some (gi g c):=by
 rw [v91,if_pos (eFc h)]; rfl
theorem u2w (g:List Cd) (x:Int):(z26 (ixM g) x).isSome=g.any fun d=>decide (d.n=x):=by
 rw [v91,eCu]
 by_cases h:x∈g.map (·.n)
 ·rw [if_pos h]
  obtain ⟨d,h1,h2⟩:=eBb.1 h
  simp only [Option.isSome_some,eCz,true_iff,decide_eq_true_eq]
  exact ⟨d,h1,h2⟩
 ·rw [if_neg h]
  simp only [Option.isSome_none,eCz,decide_eq_true_eq,eAi,false_iff]
  rintro ⟨d,h1,h2⟩
  exact h (eBb.2 ⟨d,h1,h2⟩)
theorem u2x {g:List Cd} {c:Cd} (h:z26 (ixM g) c.n=none):v42 (ixM g) c.n g.length=ixM (g++[c]):=by
 unfold v42; rw [h]
 unfold ixM
 rw [List.map_append,List.zipIdx_append]
 simp
theorem v5a {g:List Cd} {c:Cd} (h:c∈g):gi g c<g.length:=by
 have:=eDh (eFc (f:=fun c:Cd=>c.n) h)
 rwa [eBt] at this
theorem v2y {g:List Cd} {c:Cd} (hi:Inj g) (h:c∈g):g[gi g c]?=some c:=by
 have hl:=v5a h
 rw [eAa hl]
 congr 1
 refine hi _ (eCp hl) _ h ?_
 have e:=eDi (eDh (eFc (f:=fun c:Cd=>c.n) h))
 rw [List.getElem_map] at e
 exact e
theorem v2v {g:List Cd} {c:Cd} {i:Nat} (hn:(g.map (·.n)).Nodup) (h:g[i]?=some c):gi g c=i:=by
 obtain ⟨h1,h2⟩:=eAd.1 h
 have hi:=z21 hn
 have hm:c∈g:=eAu h
 have:=v2y hi hm
 obtain ⟨h3,h4⟩:=eAd.1 this
 have:=(List.getElem_inj (z28 hn) (h₀:=h3) (h₁:=h1)).1 (h4.trans h2.symm)
 exact this
def Rp (ss:List Sg) (g:List Cd) (B:Cd→Cd→Bool):Prop:=
 ss.length=g.length∧∀ i c,g[i]?=some c→∀ k,(ss.getD i Sg.none).has k=match g[k]? with|some d=>B d c|none=>false
theorem u0s (g:List Cd):Rp (List.replicate g.length Sg.none) g fun _ _=>false:=by
 refine ⟨by simp,fun i c hc k=>?_⟩
 have:(List.replicate g.length Sg.none).getD i Sg.none=Sg.none:=by
  rw [eCi,eCf]; split<;>rfl
 rw [this,Sg.has_none]
 split<;>rfl
theorem Rp.congr {ss:List Sg} {g:List Cd} {B C:Cd→Cd→Bool} (h:Rp ss g B) (hc:∀ d∈g,∀ c∈g,B d c=C d c):Rp ss g C:=by
 refine ⟨h.1,fun i c hi k=>?_⟩
 rw [h.2 i c hi k]
 cases hk:g[k]? with
 |none=>rfl
 |some d=>exact hc d (eAu hk) c (eAu hi)
def z25 (i:Nat) (s:List (Int×Nat)×List Sg) (x:Int):List (Int×Nat)×List Sg:=
 (v42 s.1 x i,match z26 s.1 x with|some k=>s.2.set i ((s.2.getD i Sg.none).wth k)|none=>s.2)
theorem v4r {α:Type} {l:List α} {i j:Nat} {a d:α} (h:j≠i):(l.set i a).getD j d=l.getD j d:=by
 rw [eCi,eCi,eFa (fun e=>h e.symm)]
theorem v4s {α:Type} {l:List α} {i:Nat} {a d:α} (h:i<l.length):(l.set i a).getD i d=a:=by
 rw [eCi,List.getElem?_set_self h]; rfl
theorem v64 (i:Nat):∀ (t:List Int) (L:List (Int×Nat)) (ss:List Sg),t.Nodup→i<ss.length→(∀ x k,z26 L x=some k→k<128)→i<128→
  (∀ x,z26 (t.foldl (z25 i) (L,ss)).1 x=if x∈t then some i else z26 L x)∧(t.foldl (z25 i) (L,ss)).2.length=ss.length∧
  (∀ j,j≠i→(t.foldl (z25 i) (L,ss)).2.getD j Sg.none=ss.getD j Sg.none)∧
  ∀ k,((t.foldl (z25 i) (L,ss)).2.getD i Sg.none).has k=((ss.getD i Sg.none).has k||t.any fun x=>decide (z26 L x=some k))
 |[],L,ss,_,_,_,_=>⟨fun x=>by simp,rfl,fun _ _=>rfl,fun k=>by simp⟩
 |x::t,L,ss,hn,hi,hL,h128=>by
  simp only [eDn]
  have hn':=eDl.1 hn
  have hs:(z25 i (L,ss) x).2.length=ss.length:=by
   unfold z25; simp only; cases z26 L x<;>simp
  have ih:=v64 i t (z25 i (L,ss) x).1 (z25 i (L,ss) x).2 hn'.2 (by rw [hs]; exact hi) (by
   intro y k hy
   unfold z25 at hy
   simp only [v20] at hy
   split at hy
   ·cases hy; exact h128
   ·exact hL y k hy) h128
  obtain ⟨h1,h2,h3,h4⟩:=ih
  refine ⟨fun y=>?_,h2.trans hs,fun j hj=>?_,fun k=>?_⟩
  ·rw [h1 y]
   simp only [z25,v20,eAz]
   by_cases hy:y∈t
   ·simp [hy]
   ·by_cases hx:y=x
    ·simp [hx]
    ·simp [hy,hx]
  ·rw [h3 j hj]
   simp only [z25]
   cases z26 L x with
   |none=>rfl
   |some k=>exact v4r hj
  ·rw [h4 k]
   have e1:((z25 i (L,ss) x).2.getD i Sg.none).has k=((ss.getD i Sg.none).has k||decide (z26 L x=some k)):=by
    simp only [z25]
    cases hv:z26 L x with
    |none=>simp
    |some m=>
     simp only
     rw [v4s hi,Sg.has_wth _ (hL x m hv)]
     congr 1
     exact decide_eq_decide.2 ⟨fun h=>by rw [h],fun h=>by cases h; rfl⟩
   have e2:(t.any fun y=>decide (z26 (z25 i (L,ss) x).1 y=some k))=t.any fun y=>decide (z26 L y=some k):=by
    have:∀ y∈t,decide (z26 (z25 i (L,ss) x).1 y=some k)=decide (z26 L y=some k):=by
     intro y hy
     simp only [z25,v20]
     have:y≠x:=fun e=>hn'.1 (e▸hy)
     simp [this]
    rw [eCu,eCz,eCz]
    constructor
    ·rintro ⟨y,hy,h⟩; exact ⟨y,hy,by rw [←this y hy]; exact h⟩
    ·rintro ⟨y,hy,h⟩; exact ⟨y,hy,by rw [this y hy]; exact h⟩
   rw [e1,e2,List.any_cons,Bool.or_assoc]
def v31 (g:List Cd) (s:List (Int×Nat)×List Sg) (c:Cd):List (Int×Nat)×List Sg:=c.t.foldl (z25 (gi g c)) s
structure v9x (g:List Cd) (B0:Cd→Cd→Bool) (p:List Cd) (s:List (Int×Nat)×List Sg):Prop where
 last:∀ x,z26 s.1 x=(on x p).getLast?.map (gi g)
 rel:Rp s.2 g fun d c=>B0 d c||ltc p d c
theorem v5r {p:List Cd} {c e:Cd} (h:e∈p):pre (p++[c]) e=pre p e:=by
 unfold pre
 have h1:=eDh h
 rw [List.idxOf_append,if_pos h,List.take_append_of_le_length (by omega)]
theorem u1q {g:List Cd} {B0:Cd→Cd→Bool} (hg:(g.map (·.n)).Nodup) (hl:g.length≤128) {p:List Cd} {c:Cd} (hp:∀ d∈p,d∈g) (hc:c∈g) (hcp:c∉p) (ht:c.t.Nodup)
  {s:List (Int×Nat)×List Sg} (h:v9x g B0 p s):v9x g B0 (p++[c]) (v31 g s c):=by
 have hi:=z21 hg
 have hgl:=v5a hc
 obtain ⟨h1,h2,h3,h4⟩:=v64 (gi g c) c.t s.1 s.2 ht (by rw [h.rel.1]; exact hgl) (by
  intro x k hx
  rw [h.last x] at hx
  cases hq:(on x p).getLast? with
  |none=>rw [hq] at hx; cases hx
  |some d=>
   rw [hq] at hx
   cases hx
   have:=v5a (hp d (v7c (eDx hq)))
   omega) (by omega)
 refine ⟨fun x=>?_,?_,?_⟩
 ·show z26 (c.t.foldl (z25 (gi g c)) s).1 x=_
  rw [h1 x,v7d,h.last x]
  by_cases hx:x∈c.t
  ·rw [if_pos hx]
   have:on x [c]=[c]:=by rw [u0t hx]; rfl
   rw [this]; simp
  ·rw [if_neg hx]
   have:on x [c]=[]:=by simp [on,hx]
   rw [this]; simp
 ·show (c.t.foldl (z25 (gi g c)) s).2.length=_
  rw [h2,h.rel.1]
 ·intro i e he k
  show ((c.t.foldl (z25 (gi g c)) s).2.getD i Sg.none).has k=_
  have hie:=v2v hg he
  have hem:e∈g:=eAu he
  by_cases hec:e=c
  ·subst hec
   have h4':=h4 k
   rw [hie] at h4'⊢
   refine h4'.trans ?_
   rw [h.rel.2 i e he k]
   cases hk:g[k]? with
   |none=>
    simp only [Bool.false_or]
    rw [eDo]
    intro x hx
    simp only [decide_eq_true_eq]
    intro hv
    have hv:z26 s.1 x=some k:=hv
    rw [h.last x] at hv
    cases hq:(on x p).getLast? with
    |none=>rw [hq] at hv; cases hv
    |some d=>
     rw [hq] at hv
     cases hv
     rw [v2y hi (hp d (v7c (eDx hq)))] at hk
     cases hk
   |some d=>
    simp only
    rw [Bool.or_assoc]
    congr 1
    have hl0:ltc p d e=false:=by
     cases hq:ltc p d e with
     |false=>rfl
     |true=>exact absurd (v2k.1 hq).1 hcp
    rw [hl0,Bool.false_or,eCu,eCz,v2k,v68 (p:=p) (r:=[]) rfl hcp]
    constructor
    ·rintro ⟨x,hx,hv⟩
     have hv:z26 s.1 x=some k:=by simpa using hv
     rw [h.last x] at hv
     refine ⟨by simp,x,hx,?_⟩
     cases hq:(on x p).getLast? with
     |none=>rw [hq] at hv; cases hv
     |some d'=>
      rw [hq] at hv
      cases hv
      rw [v2y hi (hp d' (v7c (eDx hq)))] at hk
      exact hk
    ·rintro ⟨_,x,hx,hv⟩
     refine ⟨x,hx,?_⟩
     have:z26 s.1 x=some k:=by
      rw [h.last x,hv]
      exact congrArg some (v2v hg hk)
     simpa using this
  ·have hne:i≠gi g c:=by
    rintro rfl
    rw [v2y hi hc] at he
    exact hec (Option.some.inj he).symm
   have h3':=congrArg (fun z=>z.has k) (h3 i hne)
   refine h3'.trans ?_
   simp only []
   rw [h.rel.2 i e he k]
   cases hk:g[k]? with
   |none=>rfl
   |some d=>
    simp only
    congr 1
    rw [eCu,v2k,v2k]
    constructor
    ·rintro ⟨hm,x,hx,hv⟩
     exact ⟨eDy _ hm,x,hx,by rw [v5r hm]; exact hv⟩
    ·rintro ⟨hm,x,hx,hv⟩
     have hm':e∈p:=by
      rcases eBj.1 hm with h|h
      ·exact h
      ·exact absurd (eBe.1 h) hec
     exact ⟨hm',x,hx,by rw [v5r hm'] at hv; exact hv⟩
theorem v7y {g:List Cd} {B0:Cd→Cd→Bool} (hg:(g.map (·.n)).Nodup) (hl:g.length≤128):∀ (q p:List Cd) (s:List (Int×Nat)×List Sg),(∀ d∈p++q,d∈g)→(p++q).Nodup→(∀ c∈q,c.t.Nodup)→v9x g B0 p s→v9x g B0 (p++q) (q.foldl (v31 g) s)
 |[],p,s,_,_,_,h=>by simpa using h
 |c::q,p,s,hm,hn,ht,h=>by
  have hs:=u1q hg hl (fun d hd=>hm d (eDy _ hd)) (hm c (by simp)) (fun hc=>(eDv.1 hn).2.2 c hc c (eBq ..) rfl) (ht c (eBq ..)) h
  have e:p++c::q=(p++[c])++q:=by simp
  rw [e]
  exact v7y hg hl q (p++[c]) _ (by rw [←e]; exact hm) (by rw [←e]; exact hn) (fun d hd=>ht d (eCm _ hd)) hs
def v3o (g:List Cd) (ss:List Sg) (l:List Cd):List Sg:=(l.foldl (v31 g) ([],ss)).2
def u5n (g:List Cd) (dks:List (List Cd)):List Sg:=dks.foldl (v3o g) (List.replicate g.length Sg.none)
theorem v7p {g:List Cd} (hg:(g.map (·.n)).Nodup) (hl:g.length≤128):∀ (dks:List (List Cd)) (B0:Cd→Cd→Bool) (ss:List Sg),(∀ l∈dks,(∀ d∈l,d∈g)∧l.Nodup∧∀ c∈l,c.t.Nodup)→Rp ss g B0→
  Rp (dks.foldl (v3o g) ss) g fun d c=>B0 d c||dks.any fun l=>ltc l d c
 |[],B0,ss,_,h=>h.congr fun _ _ _ _=>by simp
 |l::dks,B0,ss,hd,h=>by
  obtain ⟨h1,h2,h3⟩:=hd l (eBq ..)
  have hf:=v7y (B0:=B0) hg hl l [] ([],ss) (by simpa using h1) (by simpa using h2) h3 ⟨fun x=>by simp [z26,on],h.congr fun d _ c _=>by
   have:ltc [] d c=false:=by
    cases hq:ltc [] d c with
    |false=>rfl
    |true=>exact absurd (v2k.1 hq).1 (by simp)
   rw [this,Bool.or_false]⟩
  have:=v7p hg hl dks _ _ (fun l hl=>hd l (eCm _ hl)) hf.rel
  refine (show Rp ((l::dks).foldl (v3o g) ss) g _ from this).congr fun d _ c _=>?_
  simp only [List.nil_append,List.any_cons,Bool.or_assoc]
theorem v65 {g:List Cd} (hg:(g.map (·.n)).Nodup) (hl:g.length≤128) {dks:List (List Cd)} (hd:∀ l∈dks,(∀ d∈l,d∈g)∧l.Nodup∧∀ c∈l,c.t.Nodup):Rp (u5n g dks) g fun d c=>dks.any fun l=>ltc l d c:=
 (v7p hg hl dks _ _ hd (u0s g)).congr fun _ _ _ _=>by simp
end D12
end Go.Am
end
section
namespace Go.Am
open D12
variable {fl fl':List Int→Bool}
theorem v9e (C lc DK:List (List D)) (IX:List (D×D)) (off len i n:Nat) (nd kd nl kl:Int) (t:List Int) (L:List (Int×Nat)) (ss:List Sg) (hn:n≤128) (hi:i<n) (hs:ss.length=n) (hL:∀ x k,z26 L x=some k→k<128) (ht:t.length≤1000000):
  z5q (v6t std) (z46 L,(C,(IX,(z23 ss,(off,(len,((i:Int),(DK,(nd,(kd,(lc,(nl,(kl,(z09 t,((t.length:Int),((0:Int),()))))))))))))))))=
   some (z46 (t.foldl (z25 i) (L,ss)).1,(C,(IX,(z23 (t.foldl (z25 i) (L,ss)).2,(off,(len,(DK,(nd,(kd,(lc,(nl,(kl,())))))))))))):=by
 have key:=v2p (b:=v6t std) t (fun (s:List (Int×Nat)×List Sg) j=>(z46 s.1,(C,(IX,(z23 s.2,(off,(len,((i:Int),(DK,(nd,(kd,(lc,(nl,(kl,(z09 t,((t.length:Int),((j:Int),()))))))))))))))))) (z25 i)
  (fun s _=>s.2.length=n∧∀ x k,z26 s.1 x=some k→k<128) (fun s=>(z46 s.1,(C,(IX,(z23 s.2,(off,(len,(DK,(nd,(kd,(lc,(nl,(kl,())))))))))))))
  (fun s j x hx hI=>by
   obtain ⟨hs,hL⟩:=hI
   have hj:j<t.length:=(eAd.1 hx).1
   obtain ⟨hw,h0⟩:=stp j (by omega)
   have hlt:(j:Int)<t.length:=by omega
   have hlen:(z23 s.2).length=n:=by rw [v4d,hs]
   have hin:(i:Int)<(n:Int):=by omega
   have hi0:(0:Int)≤(i:Int):=by omega
   have hti:((i:Int)).toNat=i:=by omega
   have hget:s.2[i]?=some (s.2.getD i Sg.none):=by rw [eCi,eAa (by omega)]; rfl
   have hinv:(z25 i s x).2.length=n∧∀ y k,z26 (z25 i s x).1 y=some k→k<128:=by
    refine ⟨?_,fun y k hy=>?_⟩
    ·unfold z25; simp only; cases z26 s.1 x<;>simp [hs]
    ·simp only [z25,v20] at hy
     split at hy
     ·cases hy; omega
     ·exact hL y k hy
   refine ⟨?_,hinv⟩
   cases hv:z26 s.1 x with
   |none=>
    have hh:(z26 s.1 x).isSome=false:=by rw [hv]; rfl
    have ha:=u1z hv i
    simp only [v6t,z2c,z2d,z09,y8i,w5e,z38,Int.reduceLT,Int.reduceEq,Int.reduceLE,hx,hlt,h0,hw,v8p,v3y,hh,ha,hti,eAg,eBh,z25,hv,Option.isSome_none,Option.isSome_some]
   |some k=>
    have hh:(z26 s.1 x).isSome=true:=by rw [hv]; rfl
    have ha:=u8w hv i
    have hg:=v9w hv
    have h72:=v8i (s.2.getD i Sg.none) k (hL x k hv)
    have hset:=v5y s.2 i ((s.2.getD i Sg.none).wth k)
    have hl2:(z23 (s.2.set i ((s.2.getD i Sg.none).wth k))).length=(z23 s.2).length:=by simp [z23]
    simp only [show ∀ z:Sg,eS z=[.int .u64 (z.a:Int), .int .u64 (z.b:Int)] from fun _=>rfl] at hset
    have hrow:(z23 s.2)[i]?=some (eS (s.2.getD i Sg.none)):=by unfold z23; rw [eAg,hget]; rfl
    rw [←hlen] at hin
    simp only [v6t,z2c,z2d,z09,y8i,w5e,z38,Int.reduceLT,Int.reduceEq,Int.reduceLE,hx,hlt,h0,hw,v8p,v3y,hh,ha,hg,hti,hrow,z24,z36,z35,h72,hin,hi0,eAg,eBh,z25,hv,Option.isSome_none,Option.isSome_some,hset,hl2])
  (fun s _=>by
   have hno:¬ (t.length:Int)<t.length:=by omega
   simp only [v6t,z2c,z2d,hno,if_false,z38,Int.reduceLT,Int.reduceEq,Int.reduceLE]) (L,ss) ⟨hs,hL⟩
 exact key.1
theorem v9f (C DK:List (List D)) (off len:Nat) (nd kd:Int) (g l:List Cd) (hg:(g.map (·.n)).Nodup) (hgl:g.length≤128) (hm:∀ c∈l,c∈g) (ss:List Sg) (hs:ss.length=g.length) (hll:l.length≤1000000) (hf:Few l):
  z5q (v74 std) ([],(C,(z46 (ixM g),(z23 ss,(off,(len,(DK,(nd,(kd,(z0p fl l,((l.length:Int),((0:Int),()))))))))))))=
   some (C,(z46 (ixM g),(z23 (v3o g ss l),(off,(len,(DK,(nd,(kd,())))))))):=by
 have key:=v2p (b:=v74 std) l (fun (s:List (Int×Nat)×List Sg) j=>(z46 s.1,(C,(z46 (ixM g),(z23 s.2,(off,(len,(DK,(nd,(kd,(z0p fl l,((l.length:Int),((j:Int),()))))))))))))) (v31 g)
  (fun s _=>s.2.length=g.length∧∀ x k,z26 s.1 x=some k→k<128) (fun s=>(C,(z46 (ixM g),(z23 s.2,(off,(len,(DK,(nd,(kd,())))))))))
  (fun s j c hx hI=>by
   obtain ⟨hs,hL⟩:=hI
   have hj:j<l.length:=(eAd.1 hx).1
   have hc:=eAu hx
   obtain ⟨hw,h0⟩:=stp j (by omega)
   have hlt:(j:Int)<l.length:=by omega
   have hgi:=v5a (hm c hc)
   have hv:=v7k (hm c hc)
   have hh:(z26 (ixM g) c.n).isSome=true:=by rw [hv]; rfl
   have hge:=v9w hv
   have h5:=v9e C (z0p fl l) DK (z46 (ixM g)) off len (gi g c) g.length nd kd l.length j c.t s.1 s.2 hgl hgi hs hL (hf c hc)
   have hinv:∀ (t:List Int) (s:List (Int×Nat)×List Sg),s.2.length=g.length→(∀ x k,z26 s.1 x=some k→k<128)→(t.foldl (z25 (gi g c)) s).2.length=g.length∧∀ y k,z26 (t.foldl (z25 (gi g c)) s).1 y=some k→k<128:=by
    intro t
    induction t with
    |nil=>intro s h1 h2; exact ⟨h1,h2⟩
    |cons x t ih=>
     intro s h1 h2
     refine ih _ ?_ ?_
     ·unfold z25; simp only; cases z26 s.1 x<;>simp [h1]
     ·intro y k hy
      simp only [z25,v20] at hy
      split at hy
      ·cases hy; omega
      ·exact h2 y k hy
   refine ⟨?_,hinv c.t s hs hL⟩
   simp only [z0p,z09] at h5
   have hrow:=v26 (fl:=fl) hx
   have hle:(l.map (eC fl)).length=l.length:=by simp
   have hti:(c.t.map eI).length=c.t.length:=by simp
   simp only [v74,z2c,z2d,z0p,z09,z5r,y4u,z0p,z09,z38,Int.reduceLT,Int.reduceEq,Int.reduceLE,hlt,h0,hw,hrow,hx,v8p,v3y,hh,hge,h5,hti,hle,y0m,v31])
  (fun s _=>by
   have hno:¬ (l.length:Int)<l.length:=by omega
   simp only [v74,z2c,z2d,hno,if_false,z38,Int.reduceLT,Int.reduceEq,Int.reduceLE]) ([],ss) ⟨hs,fun x k h=>by cases h⟩
 exact key.1
def eDk (fl:List Int→Bool) (l:List Cd):List D:=[.list false 4 (z0p fl l)]
def v2n (fl:List Int→Bool) (d:List (List Cd)):List (List D):=d.map (eDk fl)
theorem v4v (l:List Cd):z3i [CK.list 4] (eDk fl l)=true:=rfl
theorem v92 (l:List Cd):dL ((eDk fl l)[0]?.getD D.nilp)=z0p fl l:=rfl
theorem v9g (C:List (List D)) (off len:Nat) (g:List Cd) (hg:(g.map (·.n)).Nodup) (hgl:g.length≤128) (dks:List (List Cd)) (hm:∀ l∈dks,∀ c∈l,c∈g) (ss:List Sg) (hs:ss.length=g.length) (hdl:dks.length≤1000000) (hll:∀ l∈dks,l.length≤1000000) (hf:∀ l∈dks,Few l):
  z5q (v75 std) (C,(z46 (ixM g),(z23 ss,(off,(len,(v2n fl dks,((dks.length:Int),((0:Int),()))))))))=some (C,(z46 (ixM g),(z23 (dks.foldl (v3o g) ss),(off,(len,()))))):=by
 have key:=v2p (b:=v75 std) dks (fun (s:List Sg) j=>(C,(z46 (ixM g),(z23 s,(off,(len,(v2n fl dks,((dks.length:Int),((j:Int),()))))))))) (v3o g)
  (fun s _=>s.length=g.length) (fun s=>(C,(z46 (ixM g),(z23 s,(off,(len,()))))))
  (fun s j l hx hI=>by
   have hj:j<dks.length:=(eAd.1 hx).1
   have hl:=eAu hx
   obtain ⟨hw,h0⟩:=stp j (by omega)
   have hlt:(j:Int)<dks.length:=by omega
   have h4:=v9f (fl:=fl) C (v2n fl dks) off len dks.length j g l hg hgl (hm l hl) s hI (hll l hl) (hf l hl)
   have hinv:(v3o g s l).length=g.length:=by
    have:∀ (q:List Cd) (s:List (Int×Nat)×List Sg),(q.foldl (v31 g) s).2.length=s.2.length:=by
     intro q
     induction q with
     |nil=>intro s; rfl
     |cons c q ih=>
      intro s
      rw [eDn,ih]
      have:∀ (t:List Int) (s:List (Int×Nat)×List Sg),(t.foldl (z25 (gi g c)) s).2.length=s.2.length:=by
       intro t
       induction t with
       |nil=>intro s; rfl
       |cons x t ih=>
        intro s
        rw [eDn,ih]
        unfold z25; simp only; cases z26 s.1 x<;>simp
      exact this c.t s
    exact (this l ([],s)).trans hI
   refine ⟨?_,hinv⟩
   have hrow:(dks.map (eDk fl))[j]?=some (eDk fl l):=by rw [eAg,hx]; rfl
   have hle:(l.map (eC fl)).length=l.length:=by simp
   simp only [v2n,z0p] at h4
   simp only [v75,z2c,z2d,v4v,v92,v2n,z0p,z38,Int.reduceLT,Int.reduceEq,Int.reduceLE,hlt,h0,hw,hrow,hx,h4,hle])
  (fun s _=>by
   have hno:¬ (dks.length:Int)<dks.length:=by omega
   simp only [v75,z2c,z2d,hno,if_false,z38,Int.reduceLT,Int.reduceEq,Int.reduceLE]) ss hs
 exact key.1
theorem v57 (g:List Cd) (c:Cd):(v3x g c).length≤g.length+1:=by unfold v3x; split<;>simp
theorem v9h (DK DK':List (List D)) (nd kd:Int) (g l:List Cd) (hgl:g.length+l.length≤1000) (hf:Few l):
  z5q (v6u std) (z0p fl g,(z46 (ixM g),(0,(g.length,(DK,(DK',(nd,(kd,(z0p fl l,((l.length:Int),((0:Int),())))))))))))=
   some (z0p fl (l.foldl v3x g),(z46 (ixM (l.foldl v3x g)),(0,((l.foldl v3x g).length,(DK,(DK',(nd,(kd,())))))))):=by
 have key:=v2p (b:=v6u std) l (fun (g:List Cd) j=>(z0p fl g,(z46 (ixM g),(0,(g.length,(DK,(DK',(nd,(kd,(z0p fl l,((l.length:Int),((j:Int),())))))))))))) v3x
  (fun h j=>h.length≤g.length+j) (fun g=>(z0p fl g,(z46 (ixM g),(0,(g.length,(DK,(DK',(nd,(kd,())))))))))
  (fun h j c hx hI=>by
   have hj:j<l.length:=(eAd.1 hx).1
   have hc:=eAu hx
   obtain ⟨hw,h0⟩:=stp j (by omega)
   have hlt:(j:Int)<l.length:=by omega
   refine ⟨?_,by have:=v57 h c; omega⟩
   have hany:=u2w h c.n
   have hrow:=v26 (fl:=fl) hx
   have hle:(l.map (eC fl)).length=l.length:=by simp
   cases hq:h.any (fun d=>decide (d.n=c.n)) with
   |true=>
    rw [hq] at hany
    simp only [v6u,z2c,z2d,z0p,z09,z5r,y4u,z0p,z38,Int.reduceLT,Int.reduceEq,Int.reduceLE,hlt,h0,hw,hrow,hx,v8p,v3y,hany,hle,v3x,hq]
   |false=>
    rw [hq] at hany
    have hno:z26 (ixM h) c.n=none:=by cases hz:z26 (ixM h) c.n with|none=>rfl|some _=>rw [hz] at hany; cases hany
    have ha:=u1z hno h.length
    rw [u2x hno] at ha
    have e1:(0:Int)≤(h.length:Int):=by omega
    have e2:¬ h.length+1≤h.length:=by omega
    have e3:h.length+1≤1000000:=by omega
    have e4:(h.map (eC fl)).length=h.length:=by simp
    have e5:(h.map (eC fl)).take h.length=h.map (eC fl):=by rw [←e4,eDf]
    simp only [v6u,z2c,z2d,z0p,z09,z5r,y4u,z0p,z38,Int.reduceLT,Int.reduceEq,Int.reduceLE,hlt,h0,hw,hrow,hx,v8p,v3y,hany,hle,v3x,hq,ha,e1,e2,e3,e4,e5,Nat.sub_zero,eAt,eDr,eAk,eDt,eDd]
    have hF:std.rdF (l.map (eC fl)) j 2 1=fl c.t:=u2h ‹_›
    rw [hF]
    simp [eC,z09])
  (fun s _=>by
   have hno:¬ (l.length:Int)<l.length:=by omega
   simp only [v6u,z2c,z2d,hno,if_false,z38,Int.reduceLT,Int.reduceEq,Int.reduceLE]) g (eAk _)
 exact key.1
theorem v2u:∀ (l g:List Cd),(l.foldl v3x g).length≤g.length+l.length
 |[],g=>by simp
 |c::l,g=>by
  have:=v2u l (v3x g c)
  have:=v57 g c
  simp only [eDn,eBi]; omega
theorem v9i (dks:List (List Cd)) (hdl:dks.length≤2) (hll:∀ l∈dks,l.length≤60) (hf:∀ l∈dks,Few l):
  z5q (v76 std) ([],([],(0,(0,(v2n fl dks,(v2n fl dks,((dks.length:Int),((0:Int),()))))))))=some (z0p fl (z37 dks),(z46 (ixM (z37 dks)),(0,((z37 dks).length,(v2n fl dks,())))))∧(z37 dks).length≤dks.length*60:=by
 have key:=v2p (b:=v76 std) dks (fun (g:List Cd) j=>(z46 (ixM g),(z0p fl g,(0,(g.length,(v2n fl dks,(v2n fl dks,((dks.length:Int),((j:Int),()))))))))) (fun g l=>l.foldl v3x g)
  (fun h j=>h.length≤j*60) (fun g=>(z0p fl g,(z46 (ixM g),(0,(g.length,(v2n fl dks,()))))))
  (fun h j l hx hI=>by
   have hj:j<dks.length:=(eAd.1 hx).1
   have hl:=eAu hx
   obtain ⟨hw,h0⟩:=stp j (by omega)
   have hlt:(j:Int)<dks.length:=by omega
   have h60:=hll l hl
   have h2:=v9h (fl:=fl) (v2n fl dks) (v2n fl dks) dks.length j h l (by omega) (hf l hl)
   refine ⟨?_,by have:=v2u l h; omega⟩
   have hrow:(dks.map (eDk fl))[j]?=some (eDk fl l):=by rw [eAg,hx]; rfl
   have hle:(l.map (eC fl)).length=l.length:=by simp
   simp only [v2n,z0p] at h2
   simp only [v76,z2c,z2d,v4v,v92,v2n,z0p,z38,Int.reduceLT,Int.reduceEq,Int.reduceLE,hlt,h0,hw,hrow,hx,h2,hle])
  (fun s _=>by
   have hno:¬ (dks.length:Int)<dks.length:=by omega
   simp only [v76,z2c,z2d,hno,if_false,z38,Int.reduceLT,Int.reduceEq,Int.reduceLE]) [] (by simp)
 exact key
structure u9a (g:List Cd) (dks:List (List Cd)):Prop where
 nums:(g.map (·.n)).Nodup
 mem:∀ l∈dks,∀ c∈l,c∈g
 wf:∀ l∈dks,l.length≤60∧l.Nodup∧∀ c∈l,c.t.Nodup∧c.t.length≤1000000
theorem u0n (dks:List (List Cd)) (hdl:dks.length≤2) (hk:u9a (z37 dks) dks):
  G66 std (v2n fl dks,())=some (z0p fl (z37 dks),(z46 (ixM (z37 dks)),(z23 (u5n (z37 dks) dks),(0,((z37 dks).length,()))))):=by
 obtain ⟨h1,hlen⟩:=v9i (fl:=fl) dks hdl (fun l hl=>(hk.wf l hl).1) (fun l hl c hc=>((hk.wf l hl).2.2 c hc).2)
 generalize z37 dks=g at*
 have hgl:g.length≤128:=by omega
 have h3:=v9g (fl:=fl) (z0p fl g) 0 g.length g hk.nums hgl dks hk.mem (List.replicate g.length Sg.none) (by simp) (by omega) (fun l hl=>by have:=(hk.wf l hl).1; omega) (fun l hl c hc=>((hk.wf l hl).2.2 c hc).2)
 have hrep:List.replicate g.length [D.int .u64 0,D.int .u64 0]=z23 (List.replicate g.length Sg.none):=by
  unfold z23; rw [List.map_replicate]; rfl
 unfold G66 u5n
 have hd:(v2n fl dks).length=dks.length:=by simp [v2n]
 have e0:(0:Int)≤(g.length:Int):=by omega
 have e1:(g.length:Int)≤1000000:=by omega
 have e2:(z23 (List.replicate g.length Sg.none)).length=g.length:=by simp [z23]
 simp only [z2c,z2d,z38,Int.reduceLT,Int.reduceEq,Int.reduceLE,hd,h1,h3,hrep,e0,e1,e2,eDt]
end Go.Am
end
section
namespace Go.Am
open D12
variable {fl fl':List Int→Bool}
def v5n (g rem:List Cd) (s:Sg):Prop:=∀ k c,g[k]?=some c→s.has k=!decide (c∈rem)
theorem v4m {g rem:List Cd} {ss:List Sg} {B:Cd→Cd→Bool} (hr:Rp ss g B) (hgl:g.length≤128) (hi:Inj g) (hsub:∀ x∈rem,x∈g) {s:Sg} (hd:v5n g rem s) {j:Nat} {d:Cd} (hj:g[j]?=some d):
  (((ss.getD j Sg.none).and s).a=(ss.getD j Sg.none).a∧((ss.getD j Sg.none).and s).b=(ss.getD j Sg.none).b)↔w7b B rem d=true:=by
 rw [Sg.and_sub,z33]
 constructor
 ·intro h e he
  obtain ⟨k,hk,hke⟩:=eDb.1 (hsub e he)
  have hk':g[k]?=some e:=by rw [eAa hk,hke]
  have hb:=hr.2 j d hj k
  rw [hk'] at hb
  cases hq:B e d with
  |false=>rfl
  |true=>
   have:=h k (by omega) (by rw [hb]; exact hq)
   rw [hd k e hk'] at this
   simp [he] at this
 ·intro h k hk hb
  rw [hr.2 j d hj k] at hb
  cases hk':g[k]? with
  |none=>rw [hk'] at hb; cases hb
  |some e=>
   rw [hk'] at hb
   rw [hd k e hk']
   have hb:B e d=true:=hb
   have:e∉rem:=fun he=>by rw [h e he] at hb; cases hb
   simp [this]
def v9y (B:Cd→Cd→Bool) (g rem:List Cd) (b:Int) (j:Nat):Prop:=
 (b= -1∧∀ i d,i<j→g[i]?=some d→d∈rem→w7b B rem d=true→False)∨
 ∃ (k:Nat) (c:Cd),b=(k:Int)∧k<j∧g[k]?=some c∧c∈rem∧w7b B rem c=true∧∀ i d,i<j→g[i]?=some d→d∈rem→w7b B rem d=true→c.n≤d.n
theorem v7z {B:Cd→Cd→Bool} {g rem:List Cd} {b:Int} (hi:Inj g) (hsub:∀ x∈rem,x∈g) (h:v9y B g rem b g.length) {c0:Cd} (hb:best B rem=some c0):∃ k:Nat,b=(k:Int)∧g[k]?=some c0:=by
 have hr:=hi.sub hsub
 have h0:=(v3r B hr).1 hb
 rcases h with ⟨rfl,h⟩|⟨k,c,rfl,hk,hc,hm,hf,hl⟩
 ·obtain ⟨i,hi',he⟩:=eDb.1 (hsub c0 h0.1)
  exact (h i c0 hi' (by rw [eAa hi',he]) h0.1 ((z33 B).2 h0.2.1)).elim
 ·refine ⟨k,rfl,?_⟩
  have:best B rem=some c:=(v3r B hr).2 ⟨hm,(z33 B).1 hf,fun d hd hfd=>by
   obtain ⟨i,hi',he⟩:=eDb.1 (hsub d hd)
   exact hl i d hi' (by rw [eAa hi',he]) hd ((z33 B).2 hfd)⟩
  rw [hb] at this
  cases this
  exact hc
theorem v33 {B:Cd→Cd→Bool} {g rem:List Cd} {b:Int} {j:Nat} (h:v9y B g rem b j) {d:Cd} (hj:g[j]?=some d) (hno:¬ (d∈rem∧w7b B rem d=true)):v9y B g rem b (j+1):=by
 have hx:∀ i e,i<j+1→g[i]?=some e→e∈rem→w7b B rem e=true→i<j:=by
  intro i e hi he h1 h2
  rcases eBw i j with h|h
  ·exact h
  ·have:i=j:=by omega
   subst this
   rw [hj] at he; cases he
   exact absurd ⟨h1,h2⟩ hno
 rcases h with ⟨rfl,h⟩|⟨k,c,rfl,hk,hc,hm,hf,hl⟩
 ·exact .inl ⟨rfl,fun i e hi he h1 h2=>h i e (hx i e hi he h1 h2) he h1 h2⟩
 ·exact .inr ⟨k,c,rfl,by omega,hc,hm,hf,fun i e hi he h1 h2=>hl i e (hx i e hi he h1 h2) he h1 h2⟩
theorem v9d (E:List (List D)) (IX:List (D×D)) (g rem:List Cd) (ss:List Sg) {B:Cd→Cd→Bool} (hr:Rp ss g B) (hgl:g.length≤128) (hi:Inj g) (hsub:∀ x∈rem,x∈g) {s:Sg} (hd:v5n g rem s) (d0 d1 n8 n9:Int) {c0:Cd} (hb:best B rem=some c0):
  ∃ k:Nat,z5q (v3w std) (z0p fl g,(IX,(z23 ss,(E,(0,(g.length,(d0,(d1,((-1:Int),((s.a:Int),((s.b:Int),(n8,(n9,((g.length:Int),((0:Int),())))))))))))))))=
   some (z0p fl g,(IX,(z23 ss,(E,(0,(g.length,(d0,(d1,((k:Int),((s.a:Int),((s.b:Int),(n8,(n9,())))))))))))))∧g[k]?=some c0:=by
 have key:=y6c (b:=v3w std) g.length (fun (b:Int) j=>(z0p fl g,(IX,(z23 ss,(E,(0,(g.length,(d0,(d1,(b,((s.a:Int),((s.b:Int),(n8,(n9,((g.length:Int),((j:Int),()))))))))))))))))
  (fun b j=>v9y B g rem b j) (fun r=>∃ k:Nat,r=(z0p fl g,(IX,(z23 ss,(E,(0,(g.length,(d0,(d1,((k:Int),((s.a:Int),((s.b:Int),(n8,(n9,())))))))))))))∧g[k]?=some c0)
  (fun b j hj hB=> .inl (by
   obtain ⟨d,hdj⟩:=z1v hj
   obtain ⟨hw,h0⟩:=stp j (by omega)
   have hlt:(j:Int)<g.length:=by omega
   have h74:=v23 s j (by omega)
   rw [hd j d hdj] at h74
   have hsg:ss[j]?=some (ss.getD j Sg.none):=by rw [eCi,eAa (by rw [hr.1]; exact hj)]; rfl
   have hrow:(ss.map eS)[j]?=some (eS (ss.getD j Sg.none)):=by rw [eAg,hsg]; rfl
   have hbl:(ss.map eS).length=g.length:=by rw [eBt,hr.1]
   have h132:=v8k (ss.getD j Sg.none) s
   have hrd:=v4m hr hgl hi hsub hd hdj
   by_cases hm:d∈rem
   ·by_cases hf:w7b B rem d=true
    ·obtain ⟨ea,eb⟩:=hrd.2 hf
     rw [ea,eb] at h132
     have hcrow:=v26 (fl:=fl) hdj
     rcases hB with ⟨rfl,hB⟩|⟨k,c,rfl,hk,hc,hcm,hcf,hcl⟩
     ·refine ⟨(j:Int),?_, .inr ⟨j,d,rfl,by omega,hdj,hm,hf,fun i e hi' he h1 h2=>?_⟩⟩
      ·simp only [v3w,z2c,z2d,z23,z0p,z24,z36,z35,z38,Int.reduceLT,Int.reduceEq,Int.reduceLE,hlt,h0,hw,h74,hm,hrow,hbl,h132]
      ·rcases eBw i j with h|h
       ·exact (hB i e h he h1 h2).elim
       ·have:i=j:=by omega
        subst this
        rw [hdj] at he; cases he; exact eDt _
     ·have hckr:=v26 (fl:=fl) hc
      have hk0:¬ (k:Int)<0:=by omega
      have hk1:(0:Int)≤(k:Int):=by omega
      have hk2:(k:Int)<(g.length:Int):=by omega
      by_cases hlt2:d.n<c.n
      ·refine ⟨(j:Int),?_, .inr ⟨j,d,rfl,by omega,hdj,hm,hf,fun i e hi' he h1 h2=>?_⟩⟩
       ·simp only [v3w,z2c,z2d,z0p,z09,z5r,y4u,z23,z0p,z24,z36,z35,z38,Int.reduceLT,Int.reduceEq,Int.reduceLE,hlt,h0,hw,h74,hm,hrow,hbl,h132,hcrow,hckr,hk0,hk1,hk2,hlt2]
       ·rcases eBw i j with h|h
        ·have:=hcl i e h he h1 h2; omega
        ·have:i=j:=by omega
         subst this
         rw [hdj] at he; cases he; exact eDt _
      ·refine ⟨(k:Int),?_, .inr ⟨k,c,rfl,by omega,hc,hcm,hcf,fun i e hi' he h1 h2=>?_⟩⟩
       ·simp only [v3w,z2c,z2d,z0p,z09,z5r,y4u,z23,z0p,z24,z36,z35,z38,Int.reduceLT,Int.reduceEq,Int.reduceLE,hlt,h0,hw,h74,hm,hrow,hbl,h132,hcrow,hckr,hk0,hk1,hk2,hlt2]
       ·rcases eBw i j with h|h
        ·exact hcl i e h he h1 h2
        ·have:i=j:=by omega
         subst this
         rw [hdj] at he; cases he; omega
    ·refine ⟨b,?_,v33 hB hdj fun h=>hf h.2⟩
     have hne:¬ ((((ss.getD j Sg.none).and s).a:Int)=((ss.getD j Sg.none).a:Int)∧(((ss.getD j Sg.none).and s).b:Int)=((ss.getD j Sg.none).b:Int)):=fun h=>hf (hrd.1 ⟨by omega,by omega⟩)
     by_cases h1:(((ss.getD j Sg.none).and s).a:Int)=((ss.getD j Sg.none).a:Int)
     ·have h2:¬ (((ss.getD j Sg.none).and s).b:Int)=((ss.getD j Sg.none).b:Int):=fun h=>hne ⟨h1,h⟩
      simp only [v3w,z2c,z2d,z23,z0p,z24,z36,z35,z38,Int.reduceLT,Int.reduceEq,Int.reduceLE,hlt,h0,hw,h74,hm,hrow,hbl,h132,h1,h2]
     ·simp only [v3w,z2c,z2d,z23,z0p,z24,z36,z35,z38,Int.reduceLT,Int.reduceEq,Int.reduceLE,hlt,h0,hw,h74,hm,hrow,hbl,h132,h1]
   ·refine ⟨b,?_,v33 hB hdj fun h=>hm h.1⟩
    simp only [v3w,z2c,z2d,z23,z0p,z24,z36,z35,z38,Int.reduceLT,Int.reduceEq,Int.reduceLE,hlt,h0,hw,h74,hm,hrow,hbl]))
  (fun b hB=>by
   obtain ⟨k,rfl,hk⟩:=v7z hi hsub hB hb
   have hno:¬ (g.length:Int)<g.length:=by omega
   exact ⟨_,by simp only [v3w,z2c,z2d,hno,if_false,z38,Int.reduceLT,Int.reduceEq,Int.reduceLE],k,rfl,hk⟩) (-1) 0 (eAv _) (.inl ⟨rfl,fun i d hi'=>by omega⟩)
 obtain ⟨r,h1,k,rfl,hk⟩:=key
 exact ⟨k,h1,hk⟩
def u9b (B:Cd→Cd→Bool) (g:List Cd):Prop:=∀ rem:List Cd,(∀ x∈rem,x∈g)→rem≠[]→∃ c,best B rem=some c
theorem v89 {B:Cd→Cd→Bool} {g m:List Cd} (hl:Lin B m) (hm:∀ x∈g,x∈m):u9b B g:=by
 intro rem hs hne
 cases hq:best B rem with
 |some c=>exact ⟨c,rfl⟩
 |none=>
  exfalso
  have hq:=(v3q B).1 hq
  have h2:=v4w (hl.filter fun x=>decide (x∈rem)) (l:=m.filter fun x=>decide (x∈rem)) (by
   intro e
   obtain ⟨x,hx⟩:=List.exists_mem_of_ne_nil rem hne
   have:x∈m.filter fun x=>decide (x∈rem):=eDa.2 ⟨hm x (hs x hx),by simpa using hx⟩
   rw [e] at this; cases this)
  obtain ⟨c,hc⟩:=h2
  unfold best at hc
  obtain ⟨h3,_⟩:=z53 hc
  obtain ⟨h4,h5⟩:=eDa.1 h3
  have h6:c∈rem:=by simpa using (eDa.1 h4).2
  obtain ⟨d,hd,hdc⟩:=hq c h6
  have:=(z33 B).1 h5 d (eDa.2 ⟨hm d (hs d hd),by simpa using hd⟩)
  rw [hdc] at this; cases this
structure u8z (B:Cd→Cd→Bool) (g:List Cd) (t:List Cd×List Cd×Sg) (i:Nat):Prop where
 len:t.2.1.length+i=g.length
 olen:t.1.length=i
 sub:∀ x∈t.2.1,x∈g
 nd:t.2.1.Nodup
 done:v5n g t.2.1 t.2.2
 res:t.1++lst B t.2.1.length t.2.1=lst B g.length g
theorem v7h {B:Cd→Cd→Bool} {g:List Cd} (hn:(g.map (·.n)).Nodup) (hgl:g.length≤128) {t:List Cd×List Cd×Sg} {i:Nat} (h:u8z B g t i) {c:Cd} (hb:best B t.2.1=some c) {k:Nat} (hk:g[k]?=some c):
  u8z B g (t.1++[c],rm c t.2.1,t.2.2.wth k) (i+1):=by
 have hi:=z21 hn
 have hc:=((v3r B (hi.sub h.sub)).1 hb).1
 have hrl:=v3h h.nd hc
 have hkl:k<g.length:=(eAd.1 hk).1
 refine ⟨?_,by simp [h.olen],fun x hx=>h.sub x (z41.1 hx).1,h.nd.filter _,fun j d hj=>?_,?_⟩
 ·have:=h.len; simp only; omega
 ·simp only
  rw [Sg.has_wth _ (by omega),h.done j d hj]
  by_cases e:j=k
  ·subst e
   rw [hk] at hj; cases hj
   simp [z41]
  ·have hdc:d≠c:=by
    rintro rfl
    exact e ((v2v hn hj).symm.trans (v2v hn hk))
   simp [z41,e,hdc]
 ·simp only
  rw [←h.res, ←hrl]
  conv=>rhs; rw [lst]
  rw [hb]
  simp only [eCg,List.singleton_append,Nat.add_sub_cancel]
theorem u0m (IX:List (D×D)) (g:List Cd) (ss:List Sg) {B:Cd→Cd→Bool} (hr:Rp ss g B) (hgl:g.length≤128) (hn:(g.map (·.n)).Nodup) (hcan:u9b B g) (hw:∀ c∈g,1≤c.t.length∧c.t.length≤1000000):
  G67 std (z0p fl g,(IX,(z23 ss,(0,(g.length,())))))=some (z0p fl g,(IX,(z23 ss,(z0p (fun _=>false) (lst B g.length g),(0,(g.length,())))))):=by
 have hi:=z21 hn
 have key:=y6c (b:=v73 std) g.length (fun (t:List Cd×List Cd×Sg) i=>(z0p fl g,(IX,(z23 ss,(z0p (fun _=>false) t.1,(0,(g.length,((t.2.2.a:Int),((t.2.2.b:Int),((g.length:Int),((i:Int),())))))))))))
  (u8z B g) (fun r=>r=(z0p fl g,(IX,(z23 ss,(z0p (fun _=>false) (lst B g.length g),(0,(g.length,())))))))
  (fun t i hlt hI=> .inl (by
   obtain ⟨hw2,h0⟩:=stp i (by omega)
   have hlt':(i:Int)<g.length:=by omega
   have hne:t.2.1≠[]:=by intro e; have:=hI.len; rw [e] at this; simp at this; omega
   obtain ⟨c,hb⟩:=hcan t.2.1 hI.sub hne
   obtain ⟨k,h2,hk⟩:=v9d (fl:=fl) (z0p (fun _=>false) t.1) IX g t.2.1 ss hr hgl hi hI.sub hI.done (t.2.2.a:Int) (t.2.2.b:Int) (g.length:Int) (i:Int) hb
   have hkl:k<g.length:=(eAd.1 hk).1
   have h72:=v8i t.2.2 k (by omega)
   have hc:=hw c (eAu hk)
   have h75:=u4r c hc.1 hc.2
   refine ⟨(t.1++[c],rm c t.2.1,t.2.2.wth k),?_,v7h hn hgl hI hb hk⟩
   have hrow:=v26 (fl:=fl) hk
   have hk1:(0:Int)≤(k:Int):=by omega
   have hk2:(k:Int)<(g.length:Int):=by omega
   have ho:=hI.olen
   have e1:i+1≤1000000:=by omega
   have e4:(t.1.map (eC fun _=>false)).length=i:=by simp [ho]
   have e5:(t.1.map (eC fun _=>false)).take i=t.1.map (eC fun _=>false):=by rw [←e4,eDf]
   have hgle:(ss.map eS).length=g.length:=by rw [eBt,hr.1]
   simp only [z0p,z23,z09] at h2 h75
   simp only [v73,z2c,z2d,z0p,z09,z5r,y4u,z23,z0p,z09,z38,Int.reduceLT,Int.reduceEq,Int.reduceLE,hlt',h0,hw2,h2,hgle,h72,hrow,h75,hk1,hk2,e1,e4,e5,eAp,eAk,eDd]
   simp [eC,z09,e1,e4,e5]))
  (fun t hI=>⟨(z0p fl g,(IX,(z23 ss,(z0p (fun _=>false) t.1,(0,(g.length,())))))),by
   have hno:¬ (g.length:Int)<g.length:=by omega
   simp only [v73,z2c,z2d,hno,if_false,z38,Int.reduceLT,Int.reduceEq,Int.reduceLE],by
   have h0:t.2.1=[]:=eBn.1 (by have:=hI.len; omega)
   have:=hI.res
   rw [h0] at this
   simp only [List.length_nil,lst,eCn] at this
   simp only [this]⟩) ([],g,Sg.none) 0 (eAv _) ⟨by simp,rfl,fun x h=>h,z28 hn,fun k c hk=>by rw [Sg.has_none]; simp [eAu hk],rfl⟩
 obtain ⟨r,h1,rfl⟩:=key
 have h1:z5q (v73 std) (z0p fl g,(IX,(z23 ss,([],(0,(g.length,((0:Int),((0:Int),((g.length:Int),((0:Int),()))))))))))=_:=h1
 unfold G67
 simp only [z2c,z2d,h1]
def via (k:Cd) (B:Cd→Cd→Bool):Cd→Cd→Bool:=fun i j=>B i j||(B i k&&B k j)
theorem v4u:∀ (ks:List Cd) (B:Cd→Cd→Bool),clo B ks=ks.foldl (fun B k=>via k B) B
 |[],_=>rfl
 |k::ks,B=>by rw [clo,eDn,v4u ks]; rfl
def u9h (ss:List Sg) (g:List Cd) (B:Cd→Cd→Bool) (k:Cd) (m:Nat):Prop:=
 ss.length=g.length∧∀ i c,g[i]?=some c→∀ x,(ss.getD i Sg.none).has x=match g[x]? with|some d=>if i<m then via k B d c else B d c|none=>false
theorem v8s {ss:List Sg} {g:List Cd} {B:Cd→Cd→Bool} {k:Cd} {m:Nat} (h:u9h ss g B k m) {i:Nat} (hk:g[i]?=some k) (x:Nat):(ss.getD i Sg.none).has x=match g[x]? with|some d=>B d k|none=>false:=by
 rw [h.2 i k hk x]
 cases g[x]? with
 |none=>rfl
 |some d=>
  simp only
  split
  ·unfold via; cases B d k<;>simp
  ·rfl
theorem v9c (C:List (List D)) (IX:List (D×D)) (off:Nat) (g:List Cd) (hgl:g.length≤128) {B:Cd→Cd→Bool} (ss:List Sg) (hr:Rp ss g B) (k:Nat) {K:Cd} (hk:g[k]?=some K) (n6 n7:Int):
  ∃ ss',z5q (v6s std) (C,(IX,(z23 ss,(off,(g.length,((k:Int),(n6,(n7,((g.length:Int),((0:Int),()))))))))))=some (C,(IX,(z23 ss',(off,(g.length,(n6,(n7,())))))))∧Rp ss' g (via K B):=by
 have hkl:k<g.length:=(eAd.1 hk).1
 have key:=y6c (b:=v6s std) g.length (fun (ss:List Sg) i=>(C,(IX,(z23 ss,(off,(g.length,((k:Int),(n6,(n7,((g.length:Int),((i:Int),())))))))))))
  (fun ss i=>u9h ss g B K i) (fun r=>∃ ss',r=(C,(IX,(z23 ss',(off,(g.length,(n6,(n7,())))))))∧Rp ss' g (via K B))
  (fun ss i hi hM=> .inl (by
   obtain ⟨c,hc⟩:=z1v hi
   obtain ⟨hw,h0⟩:=stp i (by omega)
   have hlt:(i:Int)<g.length:=by omega
   have hk1:(0:Int)≤(k:Int):=by omega
   have hk2:(k:Int)<(g.length:Int):=by omega
   have hget:∀ j,j<g.length→(ss.map eS)[j]?=some (eS (ss.getD j Sg.none)):=fun j hj=>by
    rw [eAg,eCi,eAa (by rw [hM.1]; exact hj)]; rfl
   have hrow:=hget i hi
   have hkr:=hget k hkl
   have hbl:(ss.map eS).length=g.length:=by rw [eBt,hM.1]
   have h74:=v23 (ss.getD i Sg.none) k (by omega)
   have hhas:=hM.2 i c hc k
   rw [hk] at hhas
   simp only [Nat.lt_irrefl,if_false] at hhas
   rw [hhas] at h74
   have h73:=u4s (ss.getD i Sg.none) (ss.getD k Sg.none)
   cases hB:B K c with
   |true=>
    rw [hB] at h74
    refine ⟨ss.set i ((ss.getD i Sg.none).or (ss.getD k Sg.none)),?_,by rw [List.length_set,hM.1],fun j d hj x=>?_⟩
    ·have hset:=v5y ss i ((ss.getD i Sg.none).or (ss.getD k Sg.none))
     simp only [show ∀ z:Sg,eS z=[.int .u64 (z.a:Int), .int .u64 (z.b:Int)] from fun _=>rfl,z23] at hset
     have hl2:((ss.set i ((ss.getD i Sg.none).or (ss.getD k Sg.none))).map eS).length=g.length:=by rw [eBt,List.length_set,hM.1]
     simp only [v6s,z2c,z2d,z23,z24,z36,z35,z38,Int.reduceLT,Int.reduceEq,Int.reduceLE,hlt,h0,hw,hrow,hkr,hbl,h74,h73,hk1,hk2,hset,hl2]
    ·by_cases e:j=i
     ·subst e
      rw [hc] at hj; cases hj
      rw [v4s (by rw [hM.1]; exact hi),Sg.has_or,hM.2 j c hc x,v8s hM hk x]
      cases g[x]? with
      |none=>rfl
      |some d=>
       simp only [Nat.lt_irrefl,if_false,Nat.lt_succ_self,if_true,via,hB,eCc]
     ·rw [v4r e,hM.2 j d hj x]
      have:(j<i+1)↔j<i:=by omega
      simp only [this]
   |false=>
    rw [hB] at h74
    refine ⟨ss,?_,hM.1,fun j d hj x=>?_⟩
    ·simp only [v6s,z2c,z2d,z23,z24,z36,z35,z38,Int.reduceLT,Int.reduceEq,Int.reduceLE,hlt,h0,hw,hrow,hkr,hbl,h74]
    ·by_cases e:j=i
     ·subst e
      rw [hc] at hj; cases hj
      rw [hM.2 j c hc x]
      cases g[x]? with
      |none=>rfl
      |some d=>simp only [Nat.lt_irrefl,if_false,Nat.lt_succ_self,if_true,via,hB,Bool.and_false,Bool.or_false]
     ·rw [hM.2 j d hj x]
      have:(j<i+1)↔j<i:=by omega
      simp only [this]))
  (fun ss hM=>by
   have hno:¬ (g.length:Int)<g.length:=by omega
   refine ⟨(C,(IX,(z23 ss,(off,(g.length,(n6,(n7,()))))))),by simp only [v6s,z2c,z2d,hno,if_false,z38,Int.reduceLT,Int.reduceEq,Int.reduceLE],ss,rfl,hM.1,fun i c hc x=>?_⟩
   have hi:i<g.length:=(eAd.1 hc).1
   rw [hM.2 i c hc x]
   cases g[x]? with
   |none=>rfl
   |some d=>simp only [hi,if_true]) ss 0 (eAv _) ⟨hr.1,fun i c hc x=>by
    rw [hr.2 i c hc x]
    cases g[x]? with
    |none=>rfl
    |some d=>simp⟩
 obtain ⟨r,h1,ss',rfl,h2⟩:=key
 exact ⟨ss',h1,h2⟩
theorem u4u (C:List (List D)) (IX:List (D×D)) (off:Nat) (g:List Cd) (hgl:g.length≤128) {B:Cd→Cd→Bool} (ss:List Sg) (hr:Rp ss g B):
  ∃ ss',G70 std (C,(IX,(z23 ss,(off,(g.length,())))))=some (C,(IX,(z23 ss',(off,(g.length,())))))∧Rp ss' g (clo B g):=by
 have key:=y6c (b:=v72 std) g.length (fun (ss:List Sg) k=>(C,(IX,(z23 ss,(off,(g.length,((g.length:Int),((k:Int),()))))))))
  (fun ss k=>Rp ss g ((g.take k).foldl (fun B k=>via k B) B)) (fun r=>∃ ss',r=(C,(IX,(z23 ss',(off,(g.length,())))))∧Rp ss' g (clo B g))
  (fun ss k hk hR=> .inl (by
   obtain ⟨K,hK⟩:=z1v hk
   obtain ⟨hw,h0⟩:=stp k (by omega)
   have hlt:(k:Int)<g.length:=by omega
   obtain ⟨ss',h2,hR'⟩:=v9c C IX off g hgl ss hR k hK g.length k
   refine ⟨ss',by simp only [v72,z2c,z2d,z38,Int.reduceLT,Int.reduceEq,Int.reduceLE,hlt,h0,hw,h2],?_⟩
   rw [eDw,hK,List.foldl_append]
   exact hR'))
  (fun ss hR=>by
   have hno:¬ (g.length:Int)<g.length:=by omega
   rw [eDf] at hR
   exact ⟨(C,(IX,(z23 ss,(off,(g.length,()))))),by simp only [v72,z2c,z2d,hno,if_false,z38,Int.reduceLT,Int.reduceEq,Int.reduceLE],ss,rfl,by rw [v4u]; exact hR⟩) ss 0 (eAv _) hr
 obtain ⟨r,h1,ss',rfl,h2⟩:=key
 have h1:z5q (v72 std) (C,(IX,(z23 ss,(off,(g.length,((g.length:Int),((0:Int),())))))))=_:=h1
 refine ⟨ss',?_,h2⟩
 unfold G70
 simp only [z2c,z2d,h1]
theorem u4o (C:List (List D)) (IX:List (D×D)) (off:Nat) (g:List Cd) (hgl:g.length≤128) {B:Cd→Cd→Bool} (ss:List Sg) (hr:Rp ss g B):
  G91 std (C,(IX,(z23 ss,(off,(g.length,())))))=some (C,(IX,(z23 ss,(off,(g.length,((g.any fun c=>B c c),())))))):=by
 have key:=z87 (b:=v6q std) g.length (fun k=>(C,(IX,(z23 ss,(off,(g.length,((g.length:Int),((k:Int),())))))))) (fun i=>B (g.getD i default) (g.getD i default)) (.inl (C,(IX,(z23 ss,(off,(g.length,(true,()))))))) (.inr (C,(IX,(z23 ss,(off,(g.length,()))))))
  (fun k hk=>by
   obtain ⟨K,hK⟩:=z1v hk
   obtain ⟨hw,h0⟩:=stp k (by omega)
   have hlt:(k:Int)<g.length:=by omega
   have hrow:(ss.map eS)[k]?=some (eS (ss.getD k Sg.none)):=by
    rw [eAg,eCi,eAa (by rw [hr.1]; exact hk)]; rfl
   have hbl:(ss.map eS).length=g.length:=by rw [eBt,hr.1]
   have h74:=v23 (ss.getD k Sg.none) k (by omega)
   have hh:=hr.2 k K hK k
   rw [hK] at hh
   simp only at hh
   rw [hh] at h74
   rw [z2g hK]
   cases hB:B K K with
   |true=>rw [hB] at h74; simp only [v6q,z2c,z2d,z23,z24,z36,z35,z38,Int.reduceLT,Int.reduceEq,Int.reduceLE,hlt,h0,hw,hrow,hbl,h74]
   |false=>rw [hB] at h74; simp only [v6q,z2c,z2d,z23,z24,z36,z35,z38,Int.reduceLT,Int.reduceEq,Int.reduceLE,hlt,h0,hw,hrow,hbl,h74])
  (by
   have hno:¬ (g.length:Int)<g.length:=by omega
   simp only [v6q,z2c,z2d,hno,if_false,z38,Int.reduceLT,Int.reduceEq,Int.reduceLE])
 have key:z5q (v6q std) (C,(IX,(z23 ss,(off,(g.length,((g.length:Int),((0:Int),())))))))=_:=key
 have ea:((List.range g.length).any fun i=>B (g.getD i default) (g.getD i default))=g.any fun c=>B c c:=x2s g default fun c=>B c c
 rw [ea] at key
 unfold G91
 have hl:(z23 ss).length=g.length:=by rw [v4d,hr.1]
 simp only [z2c,z2d,hl,key]
 cases (g.any fun c=>B c c)<;>rfl
end Go.Am
end
section
namespace Go.Am
open D12
variable {fl fl':List Int→Bool}
theorem u4t (l:List Int) (x:Int) (hl:l.length≤1000000):G71 std (z09 l,(x,()))=some (l.contains x,()):=by
 have key:=z6z (b:=v36 std) l.length (fun i=>(z09 l,(x,((l.length:Int),((i:Int),()))))) (fun i=>decide (x=l.getD i default)) (fun i=> .inl ((i:Int),())) (.inr ()) (fun i hi=>by
  obtain ⟨y,hy⟩:=z1v hi
  obtain ⟨hw,h0⟩:=stp i (by omega)
  have hlt:(i:Int)<l.length:=by omega
  by_cases e:x=y
  ·subst e
   simp only [z2g hy,v36,z2c,z2d,z09,y8i,w5e,z38,Int.reduceLT,Int.reduceEq,Int.reduceLE,hy,hlt,h0,hw,eAg,eBh]
  ·simp only [z2g hy,v36,z2c,z2d,z09,y8i,w5e,z38,Int.reduceLT,Int.reduceEq,Int.reduceLE,hy,hlt,h0,hw,e,eAg,eBh]) (by
  have hn:¬ (l.length:Int)<l.length:=by omega
  simp only [v36,z2c,z2d,hn,if_false])
 have key:z5q (v36 std) (z09 l,(x,((l.length:Int),((0:Int),()))))=_:=key
 unfold G71 u5l
 have hlen:(z09 l).length=l.length:=by simp [z09]
 have e:=x36 l default fun y=>decide (x=y)
 have hc:l.contains x=(l.find? fun y=>decide (x=y)).isSome:=by
  rw [eCu,List.find?_isSome]; simp
 rw [hc, ←e]
 simp only [z2c,z2d,hlen,key]
 cases hq:(List.range l.length).find? fun i=>decide (x=l.getD i default) with
 |none=>simp
 |some i=>simp
theorem z70 {l:List Cd} (h:(l.map (·.n)).Nodup):z37 [l]=l:=by
 have:∀ (q p:List Cd),((p++q).map (·.n)).Nodup→q.foldl v3x p=p++q:=by
  intro q
  induction q with
  |nil=>intro p _; simp
  |cons c q ih=>
   intro p hp
   have hno:(p.any fun d=>decide (d.n=c.n))=false:=by
    rw [eDo]
    intro d hd
    simp only [decide_eq_true_eq]
    rw [List.map_append,eDv] at hp
    exact fun e=>hp.2.2 d.n (eFc hd) c.n (by simp) e
   have e:p++c::q=(p++[c])++q:=by simp
   rw [eDn]
   have:v3x p c=p++[c]:=by unfold v3x; rw [hno]; rfl
   rw [this,e]
   exact ih _ (by rw [←e]; exact hp)
 exact this l [] (by simpa using h)
theorem z20 {l:List Cd} (h:z4x l=0):l.length≤60∧(l.map (·.n)).Nodup∧l.Nodup∧(∀ c∈l,z3a c=0)∧(∀ c∈l,1≤c.t.length∧c.t.length≤3∧c.t.Nodup):=by
 obtain ⟨h1,h2,h3⟩:=z64.1 h
 refine ⟨h1,h3,z28 h3,h2,fun c hc=>?_⟩
 obtain ⟨a,b,c1,d,e,f⟩:=v5f.1 (h2 c hc)
 refine ⟨?_,?_,e⟩
 ·omega
 ·have:z2z c.k≤3:=by unfold z2z; split<;>(try split)<;>(try split)<;>omega
  omega
theorem v2x {l:List Cd} (h:z4x l=0):u9a (z37 [l]) [l]:=by
 obtain ⟨h1,h2,h3,h4,h5⟩:=z20 h
 refine ⟨by rw [z70 h2]; exact h2,fun m hm c hc=>?_,fun m hm=>?_⟩
 ·rw [eBe.1 hm] at hc; rw [z70 h2]; exact hc
 ·rw [eBe.1 hm]; exact ⟨h1,h3,fun c hc=>⟨(h5 c hc).2.2,by have:=(h5 c hc).2.1; omega⟩⟩
theorem v7n {l:List Cd} (h:z4x l=0):∃ ss,G66 std ([[.list false 4 (z0p fl l)]],())=some (z0p fl l,(z46 (ixM l),(z23 ss,(0,(l.length,())))))∧Rp ss l (ltc l):=by
 obtain ⟨h1,h2,h3,h4,h5⟩:=z20 h
 have g:=u0n (fl:=fl) [l] (by simp) (v2x h)
 have hs:=v65 (g:=z37 [l]) (dks:=[l]) (v2x h).nums (by rw [z70 h2]; omega) (fun m hm=>⟨(v2x h).mem m hm,((v2x h).wf m hm).2.1,fun c hc=>(((v2x h).wf m hm).2.2 c hc).1⟩)
 rw [z70 h2] at g hs
 exact ⟨_,g,hs.congr fun d _ c _=>by simp⟩
theorem u0z {l:List Cd} (hn:l.Nodup):Lin (ltc l) l:=by
 have h:=v49 hn
 have hf:∀ x y,ord l x y=false→ltc l x y=false:=fun x y h=>by
  cases hq:ltc l x y with
  |false=>rfl
  |true=>rw [(z85 hq).1] at h; cases h
 exact ⟨h.1.imp fun h=>hf _ _ h,fun x hx=>hf _ _ (h.2 x hx)⟩
theorem v7i {l:List Cd} (hm:(l.map (·.n)).Nodup):lst (ltc l) l.length l=z22 l:=by
 have hn:=z28 hm
 exact v3k l (fun x _ y _ h=>(z85 h).1) (fun x hx y hy h=>by
  rcases v7b hn hx hy h with h|⟨z,hz,h1,h2⟩
  ·exact .inl h
  ·exact .inr ⟨z,hz,h1,h2⟩) (z21 hm) l.length l (fun x h=>h) (fun x _ y hy hno _=>absurd hy hno)
theorem v3l {l:List Cd} (h:z4x l=0):∃ IX ss,G66 std ([[.list false 4 (z0p fl l)]],())=some (z0p fl l,(IX,(z23 ss,(0,(l.length,())))))∧
  G67 std (z0p fl l,(IX,(z23 ss,(0,(l.length,())))))=some (z0p fl l,(IX,(z23 ss,(z0p (fun _=>false) (z22 l),(0,(l.length,())))))):=by
 obtain ⟨h1,h2,h3,h4,h5⟩:=z20 h
 obtain ⟨ss,g,hr⟩:=v7n (fl:=fl) h
 have h67:=u0m (fl:=fl) (z46 (ixM l)) l ss hr (by omega) h2 (v89 (u0z h3) fun x h=>h) (fun c hc=>⟨(h5 c hc).1,by have:=(h5 c hc).2.1; omega⟩)
 rw [v7i h2] at h67
 exact ⟨_,ss,g,h67⟩
theorem u5a (l:List Cd) (hf:Few l):G29 std (z0p fl l,())=some ((if z4x l=0 then z0p (fun _=>false) (z22 l) else []),(z4x l,())):=by
 have h19:=w3c (fl:=fl) l hf
 unfold G29
 by_cases h:z4x l=0
 ·obtain ⟨IX,ss,g66,g67⟩:=v3l (fl:=fl) h
  simp only [z2c,z2d,z38,Int.reduceLT,Int.reduceEq,Int.reduceLE,h19,h,g66,g67]
 ·simp only [z2c,z2d,z38,Int.reduceLT,Int.reduceEq,Int.reduceLE,h19,h]
theorem v45 {l:List Cd} {P:Cd→Bool} {i:Nat} {c:Cd} (h:l[i]?=some c):(l.take (i+1)).filter P=(l.take i).filter P++(if P c=true then [c] else []):=by
 rw [eDw,h,List.filter_append]
 congr 1
 simp [List.filter_cons]
end Go.Am
end
section
namespace Go.Am
open D12
variable {fl fl':List Int→Bool}
def nums (b:List Th):List Int:=b.map (·.num)
end Go.Am
end
section
namespace Go.Am
open D12
variable {fl fl':List Int→Bool}
theorem v9u {l:List Cd} {x:Int} (h:∀ c∈l,c.n≠x):atI l x= -1:=by
 unfold atI atO
 have:(List.range l.length).find? (fun i=>decide ((l.getD i default).n=x))=none:=by
  rw [eDj]
  intro i hi
  have hi:=eBo.1 hi
  obtain ⟨m,hm⟩:=z1v hi
  rw [z2g hm]
  simpa using h m (eAu hm)
 rw [this]
theorem v56 {l:List Cd} {c:Cd} (hn:(l.map (·.n)).Nodup) {i:Nat} (h:l[i]?=some c):atI l c.n=(i:Int):=by
 unfold atI atO
 cases hq:(List.range l.length).find? (fun i=>decide ((l.getD i default).n=c.n)) with
 |none=>
  rw [eDj] at hq
  have hi:i<l.length:=(eAd.1 h).1
  have:=hq i (eBo.2 hi)
  rw [z2g h] at this
  simp at this
 |some j=>
  have h1:=eDm hq
  have h2:=eBo.1 (eDe hq)
  obtain ⟨m,hm⟩:=z1v h2
  rw [z2g hm] at h1
  simp only [decide_eq_true_eq] at h1
  have hmc:m=c:=z21 hn m (eAu hm) c (eAu h) h1
  subst hmc
  show (j:Int)=i
  rw [←v2v hn h, ←v2v hn hm]
theorem v3s {l m:List Cd} {c:Cd} (hn:(m.map (·.n)).Nodup) (hs:∀ x∈l,x∈m) (hc:c∈m):(0≤atI l c.n↔c∈l):=by
 by_cases h:c∈l
 ·simp only [h,iff_true]
  unfold atI atO
  cases hq:(List.range l.length).find? (fun i=>decide ((l.getD i default).n=c.n)) with
  |none=>
   rw [eDj] at hq
   obtain ⟨i,hi,he⟩:=eDb.1 h
   have:=hq i (eBo.2 hi)
   rw [z2g (by rw [eAa hi,he])] at this
   simp at this
  |some j=>simp only; omega
 ·simp only [h,iff_false]
  rw [v9u fun d hd e=>h (by rw [←z21 hn d (hs d hd) c hc e]; exact hd)]
  omega
theorem z51 {l m:List Cd} (h:z4x l=0) (hs:m.Sublist l):z4x m=0:=by
 obtain ⟨h1,h2,h3⟩:=z64.1 h
 exact z64.2 ⟨eBf hs.length_le h1,fun c hc=>h2 c (hs.subset hc),h3.sublist (hs.map _)⟩
theorem v81 {l:List Cd}:u2j l=true↔z4x l=0:=by
 unfold u2j
 simp only [eAb,eBy,decide_eq_true_eq]
 constructor
 ·exact fun h=>h.2
 ·intro h
  refine ⟨?_,h⟩
  obtain ⟨h1,_,_,_,h5⟩:=z20 h
  unfold x78
  simp only [Bool.or_eq_false_iff,decide_eq_false_iff_not,eDo,decide_eq_true_eq]
  exact ⟨by omega,fun c hc=>by have:=(h5 c hc).2.1; omega⟩
theorem z44 {l:List Cd} (h:z4x l=0):Few l:=fun c hc=>by have:=((z20 h).2.2.2.2 c hc).2.1; omega
end Go.Am
end
section
namespace Go.Am
open D12
variable {fl fl':List Int→Bool}
theorem u2e (a b:List Int) (ha:a.length≤1000000):u2k std (z09 a,(z09 b,()))=some (decide (a=b),()):=by
 by_cases hl:a.length=b.length
 ·have key:=z87 (b:=v35 std) a.length (fun i=>(z09 a,(z09 b,((a.length:Int),((i:Int),()))))) (fun i=>!decide (a.getD i default=b.getD i default)) (.inl (false,())) (.inr ()) (fun i hi=>by
   obtain ⟨m,hm⟩:=z1v hi
   obtain ⟨m',hm'⟩:=z1v (l:=b) (i:=i) (by omega)
   obtain ⟨hw,h0⟩:=stp i (by omega)
   have hlt:(i:Int)<a.length:=by omega
   have r1:=v8q hm
   have r2:(b.map eI)[i]?=some (eI m'):=by rw [eAg,hm']; rfl
   rw [z2g hm,z2g hm']
   by_cases e:m=m'
   ·subst e
    simp only [v35,z2c,z2d,z09,y8i,w5e,z38,Int.reduceLT,Int.reduceEq,Int.reduceLE,r1,r2,hlt,h0,hw,eBt, ←hl,eAi,if_false]
   ·simp only [v35,z2c,z2d,z09,y8i,w5e,z38,Int.reduceLT,Int.reduceEq,Int.reduceLE,r1,r2,hlt,h0,hw,e,eBt, ←hl]) (by
   have hno:¬ (a.length:Int)<a.length:=by omega
   simp only [v35,z2c,z2d,hno,if_false])
  have key:z5q (v35 std) (z09 a,(z09 b,((a.length:Int),((0:Int),()))))=_:=key
  rw [v5u default hl] at key
  unfold u2k
  have e1:(z09 a).length=a.length:=z00 a
  have e2:(z09 b).length=b.length:=z00 b
  have e3:(a.length:Int)=(b.length:Int):=by omega
  rw [e3] at key
  by_cases e:a=b
  ·simp only [e,decide_true,eDp,eAi,if_false] at key
   subst e
   simp only [z2c,z2d,z38,Int.reduceLT,Int.reduceEq,Int.reduceLE,e1,e2,e3,key]
  ·simp only [e,decide_false,eCq,if_true] at key
   simp only [z2c,z2d,z38,Int.reduceLT,Int.reduceEq,Int.reduceLE,e1,e2,e3,key,e]
 ·unfold u2k
  have e1:(z09 a).length=a.length:=z00 a
  have e2:(z09 b).length=b.length:=z00 b
  have e3:¬ (a.length:Int)=(b.length:Int):=by omega
  have e4:a≠b:=fun h=>hl (by rw [h])
  simp only [z2c,z2d,z38,Int.reduceLT,Int.reduceEq,Int.reduceLE,e1,e2,e3,e4,ne_eq]
theorem v8h (c d:Cd) (hc:c.t.length≤1000000):G80 std (c.n,(c.k,(z09 c.t,(c.a,(d.n,(d.k,(z09 d.t,(d.a,()))))))))=some (decide (c=d),()):=by
 have h118:=u2e c.t d.t hc
 unfold G80
 by_cases e:c=d
 ·subst e
  rw [decide_eq_true rfl] at h118
  simp only [z2c,z2d,z38,Int.reduceLT,Int.reduceEq,Int.reduceLE,h118]
 ·have hx:¬ (c.n=d.n∧c.k=d.k∧c.t=d.t∧c.a=d.a):=by
   rintro ⟨h1,h2,h3,h4⟩; exact e (by cases c; cases d; simp_all)
  by_cases e1:c.n=d.n
  ·by_cases e2:c.k=d.k
   ·by_cases e3:c.a=d.a
    ·have e4:¬ c.t=d.t:=fun h=>hx ⟨e1,e2,h,e3⟩
     rw [decide_eq_false e4] at h118
     simp only [z2c,z2d,z38,Int.reduceLT,Int.reduceEq,Int.reduceLE,h118,e,e1,e2,e3]
    ·simp only [z2c,z2d,z38,Int.reduceLT,Int.reduceEq,Int.reduceLE,e,e1,e2,e3]
   ·simp only [z2c,z2d,z38,Int.reduceLT,Int.reduceEq,Int.reduceLE,e,e1,e2]
  ·simp only [z2c,z2d,z38,Int.reduceLT,Int.reduceEq,Int.reduceLE,e,e1]
theorem u4q (a b:List Cd) (ha:a.length≤1000000) (hr:Few a):G81 std (z0p fl a,(z0p fl' b,()))=some (decide (a=b),()):=by
 by_cases hl:a.length=b.length
 ·have key:=z87 (b:=v6r std) a.length (fun i=>(z0p fl' b,(z0p fl a,((a.length:Int),((i:Int),()))))) (fun i=>!decide (a.getD i default=b.getD i default)) (.inl (false,())) (.inr ()) (fun i hi=>by
   obtain ⟨m,hm⟩:=z1v hi
   obtain ⟨m',hm'⟩:=z1v (l:=b) (i:=i) (by omega)
   obtain ⟨hw,h0⟩:=stp i (by omega)
   have hlt:(i:Int)<a.length:=by omega
   have r1:=v26 (fl:=fl) hm
   have r2:(b.map (eC fl'))[i]?=some (eC fl' m'):=by rw [eAg,hm']; rfl
   have h80:=v8h m m' (hr m (eAu hm))
   simp only [z09] at h80
   rw [z2g hm,z2g hm']
   by_cases e:m=m'
   ·subst e
    rw [decide_eq_true rfl] at h80
    simp only [v6r,z2c,z2d,z0p,z09,z5r,y4u,z0p,z09,z38,Int.reduceLT,Int.reduceEq,Int.reduceLE,r1,r2,hlt,h0,hw,h80,eBt,eAi,if_false]
   ·rw [decide_eq_false e] at h80
    simp only [v6r,z2c,z2d,z0p,z09,z5r,y4u,z0p,z09,z38,Int.reduceLT,Int.reduceEq,Int.reduceLE,r1,r2,hlt,h0,hw,h80,e,eBt]) (by
   have hno:¬ (a.length:Int)<a.length:=by omega
   simp only [v6r,z2c,z2d,hno,if_false])
  have key:z5q (v6r std) (z0p fl' b,(z0p fl a,((a.length:Int),((0:Int),()))))=_:=key
  rw [v5u default hl] at key
  unfold G81
  have e1:(z0p fl a).length=a.length:=z2h a
  have e2:(z0p fl' b).length=b.length:=z2h b
  have e3:(a.length:Int)=(b.length:Int):=by omega
  rw [e3] at key
  by_cases e:a=b
  ·simp only [e,decide_true,eDp,eAi,if_false] at key
   subst e
   simp only [z2c,z2d,z38,Int.reduceLT,Int.reduceEq,Int.reduceLE,e1,e2,e3,key]
  ·simp only [e,decide_false,eCq,if_true] at key
   simp only [z2c,z2d,z38,Int.reduceLT,Int.reduceEq,Int.reduceLE,e1,e2,e3,key,e]
 ·unfold G81
  have e1:(z0p fl a).length=a.length:=z2h a
  have e2:(z0p fl' b).length=b.length:=z2h b
  have e3:¬ (a.length:Int)=(b.length:Int):=by omega
  have e4:a≠b:=fun h=>hl (by rw [h])
  simp only [z2c,z2d,z38,Int.reduceLT,Int.reduceEq,Int.reduceLE,e1,e2,e3,e4,ne_eq]
def EM (fl:List Int→Bool):v61 Int Cd:=⟨fun k=> .int .i64 k,fun c=> .agg (eC fl c),[.i],false,true,[.int .i64, .int .i64, .list 1, .int .i64]⟩
theorem v41:(EM fl).Ok where
 agg:=fun _=>rfl
 kinds:=fun _=>rfl
 eq:=fun a b=>by
  show (bif IntKind.i64==IntKind.i64 then (some (z3l .eql a b&&true)) else none)=_
  rw [eCc]; rfl
 vagg:=fun _=>rfl
 vok:=fun _=>rfl
def v3v (l:List Cd):List (Int×Cd):=l.map fun c=>(c.n,c)
def v3c (fl:List Int→Bool) (m:List (Int×Cd)):List (D×D):=(EM fl).enc m
def fdC (l:List Cd) (x:Int):Option Cd:=l.find? fun c=>decide (c.n=x)
theorem v4i (x:Int):∀ l:List Cd,z26 (v3v l) x=fdC l x
 |[]=>rfl
 |c::l=>by
  have ih:=v4i x l
  unfold v3v fdC at ih⊢
  simp only [List.map_cons,z26,List.find?_cons]
  by_cases h:x=c.n
  ·simp [h]
  ·have:decide (c.n=x)=false:=by simpa using fun e=>h e.symm
   simp [h,this,ih]
theorem v3f {l:List Cd} (hn:(l.map (·.n)).Nodup) {c:Cd} (h:c∈l):fdC l c.n=some c:=by
 unfold fdC
 cases hq:l.find? fun d=>decide (d.n=c.n) with
 |none=>
  rw [eDj] at hq
  have:=hq c h
  simp at this
 |some d=>
  have h1:=eDe hq
  have h2:=eDm hq
  simp only [decide_eq_true_eq] at h2
  rw [z21 hn d h1 c h h2]
theorem v27 {l:List Cd} {x:Int} {c:Cd} (h:fdC l x=some c):c∈l∧c.n=x:=by
 have h1:=eDe h
 have h2:=eDm h
 simp only [decide_eq_true_eq] at h2
 exact ⟨h1,h2⟩
section
variable (m:List (Int×Cd)) (x:Int)
theorem u2a:std.mOk (v3c fl m) [SK.i] false (.int .i64 x) true [.int .i64, .int .i64, .list 1, .int .i64]=true:=v7f v41 m x
theorem v5m:std.mhas (v3c fl m) [SK.i] false (.int .i64 x)=(z26 m x).isSome:=v5v v41 m x
variable {m x}
theorem M_0 {c:Cd} (h:z26 m x=some c):std.mI (v3c fl m) [SK.i] false (.int .i64 x) 0=c.n:=v5x v41 m x 0 h
theorem M_1 {c:Cd} (h:z26 m x=some c):std.mI (v3c fl m) [SK.i] false (.int .i64 x) 1=c.k:=v5x v41 m x 1 h
theorem M_2 {c:Cd} (h:z26 m x=some c):std.mL (v3c fl m) [SK.i] false (.int .i64 x) 2=z09 c.t:=by
 show dL (x19 _ _ _ _ _)=_
 rw [show x19 (v3c fl m) [SK.i] false (.int .i64 x) 2=_ from v4n v41 m x 2 h]; rfl
theorem M_3 {c:Cd} (h:z26 m x=some c):std.mI (v3c fl m) [SK.i] false (.int .i64 x) 3=c.a:=v5x v41 m x 3 h
theorem u8y (h:z26 m x=none) (c:Cd):std.madd (v3c fl m) (.int .i64 x) (.agg [.int .i64 c.n, .int .i64 c.k, .list (fl c.t) 1 (z09 c.t), .int .i64 c.a])=v3c fl (v42 m x c):=v5w v41 m x h c
theorem u8x {c:Cd} (h:z26 m x=some c):std.mdel (v3c fl m) (std.mpos (v3c fl m) [SK.i] false (.int .i64 x))=v3c fl (v8e m x):=v8t v41 m x h
end
theorem v5t {l:List Cd} {i:Nat} {c:Cd} (hn:(l.map (·.n)).Nodup) (h:l[i]?=some c):z26 (v3v (l.take i)) c.n=none∧v42 (v3v (l.take i)) c.n c=v3v (l.take (i+1)):=by
 have h1:z26 (v3v (l.take i)) c.n=none:=by
  rw [v21]
  intro hm
  unfold v3v at hm
  rw [List.map_map] at hm
  obtain ⟨d,hd,he⟩:=eBb.1 hm
  have he:d.n=c.n:=he
  have hdl:=List.mem_of_mem_take hd
  have:=z21 hn d hdl c (eAu h) he
  subst this
  obtain ⟨j,hj,hje⟩:=eDb.1 hd
  rw [eBv] at hj
  rw [List.getElem_take] at hje
  have:=v2v hn (i:=j) (by rw [eAa (by omega),hje])
  have:=v2v hn h
  omega
 refine ⟨h1,?_⟩
 unfold v42
 rw [h1,eDw,h]
 simp [v3v]
theorem u0j (l:List Cd) (hl:l.length≤60) (hn:(l.map (·.n)).Nodup):G79 std (z0p fl l,())=some (v3c fl (v3v l),()):=by
 have key:=y6c (b:=v70 std) l.length (fun (_:Unit) i=>(v3c fl (v3v (l.take i)),(z0p fl l,((l.length:Int),((i:Int),()))))) (fun _ _=>True) (fun r=>r=(v3c fl (v3v l),()))
  (fun _ i hi _=> .inl ⟨(),by
   obtain ⟨c,hc⟩:=z1v hi
   obtain ⟨hw,h0⟩:=stp i (by omega)
   have hlt:(i:Int)<l.length:=by omega
   obtain ⟨h1,h2⟩:=v5t hn hc
   have hrow:=v26 (fl:=fl) hc
   have hh:(z26 (v3v (l.take i)) c.n).isSome=false:=by rw [h1]; rfl
   have ha:=u8y (fl:=fl) h1 c
   rw [h2] at ha
   have hF:std.rdF (l.map (eC fl)) i 2 1=fl c.t:=u2h ‹_›
   simp only [z09] at ha
   simp only [v70,z2c,z2d,z0p,z09,z5r,y4u,z0p,z09,z38,Int.reduceLT,Int.reduceEq,Int.reduceLE,hrow,hlt,h0,hw,u2a,v5m,hh,hF,ha],trivial⟩)
  (fun _ _=>⟨(v3c fl (v3v l),()),by
   have hno:¬ (l.length:Int)<l.length:=by omega
   rw [eDf]
   simp only [v70,z2c,z2d,hno,if_false],rfl⟩) () 0 (eAv _) trivial
 obtain ⟨r,h1,rfl⟩:=key
 have h1:z5q (v70 std) ([],(z0p fl l,((l.length:Int),((0:Int),()))))=_:=h1
 unfold G79
 have hle:(z0p fl l).length=l.length:=z2h l
 simp only [z2c,z2d,hle,h1]
theorem v24 {a b:List Cd}:v2m a b=0↔z4x a=0∧z4x b=0:=by
 unfold v2m; split
 ·rename_i h; exact ⟨fun e=>absurd e h,fun e=>absurd e.1 h⟩
 ·rename_i h; simp only [ne_eq,Decidable.not_not] at h; simp [h]
theorem v8g (a b:List Cd) (ha:Few a) (hb:Few b):G90 std (z0p fl a,(z0p fl' b,()))=some (z31 a b,()):=by
 have h78:=u0k (fl:=fl) (fl':=fl') a b ha hb
 unfold G90
 by_cases h:v2m a b=0
 ·obtain ⟨da,db⟩:=v24.1 h
  obtain ⟨a1,a2,a3,a4,a5⟩:=z20 da
  obtain ⟨b1,b2,b3,b4,b5⟩:=z20 db
  have h79:=u0j (fl:=fl) a a1 a2
  have key:=z87 (b:=v5h std) b.length (fun i=>(v3c fl (v3v a),(z0p fl' b,((b.length:Int),((i:Int),()))))) (fun i=>match fdC a (b.getD i default).n with|some x=>!decide (x=b.getD i default)|none=>false) (.inl ((15:Int),())) (.inr ()) (fun i hi=>by
   obtain ⟨c,hc⟩:=z1v hi
   obtain ⟨hw,h0⟩:=stp i (by omega)
   have hlt:(i:Int)<b.length:=by omega
   have hrow:=v26 (fl:=fl') hc
   rw [z2g hc]
   have hv:=v4i c.n a
   cases hq:fdC a c.n with
   |none=>
    rw [hq] at hv
    have hh:(z26 (v3v a) c.n).isSome=false:=by rw [hv]; rfl
    simp only [v5h,z2c,z2d,z0p,z09,z5r,y4u,z0p,z09,z38,Int.reduceLT,Int.reduceEq,Int.reduceLE,hrow,hlt,h0,hw,u2a,v5m,hh]
   |some x=>
    rw [hq] at hv
    have hh:(z26 (v3v a) c.n).isSome=true:=by rw [hv]; rfl
    have m0:=M_0 (fl:=fl) hv
    have m1:=M_1 (fl:=fl) hv
    have m2:=M_2 (fl:=fl) hv
    have m3:=M_3 (fl:=fl) hv
    have h80:=v8h x c (by have:=(a5 x (v27 hq).1).2.1; omega)
    simp only [z09] at m2 h80
    by_cases e:x=c
    ·subst e
     rw [decide_eq_true rfl] at h80
     simp only [v5h,z2c,z2d,z0p,z09,z5r,y4u,z0p,z09,z38,Int.reduceLT,Int.reduceEq,Int.reduceLE,hrow,hlt,h0,hw,u2a,v5m,hh,m0,m1,m2,m3,h80,eAi,if_false]
    ·rw [decide_eq_false e] at h80
     simp only [v5h,z2c,z2d,z0p,z09,z5r,y4u,z0p,z09,z38,Int.reduceLT,Int.reduceEq,Int.reduceLE,hrow,hlt,h0,hw,u2a,v5m,hh,m0,m1,m2,m3,h80,e]) (by
   have hno:¬ (b.length:Int)<b.length:=by omega
   simp only [v5h,z2c,z2d,hno,if_false])
  have key:z5q (v5h std) (v3c fl (v3v a),(z0p fl' b,((b.length:Int),((0:Int),()))))=_:=key
  have hle:(z0p fl' b).length=b.length:=z2h b
  have hP:((List.range b.length).any fun i=>match fdC a (b.getD i default).n with|some x=>!decide (x=b.getD i default)|none=>false)=true↔∃ x∈a,∃ y∈b,x.n=y.n∧x≠y:=by
   rw [x2s b default fun c=>match fdC a c.n with|some x=>!decide (x=c)|none=>false,eCz]
   constructor
   ·rintro ⟨y,hy,hq⟩
    cases hf:fdC a y.n with
    |none=>rw [hf] at hq; cases hq
    |some x=>
     rw [hf] at hq
     exact ⟨x,(v27 hf).1,y,hy,(v27 hf).2,by simpa using hq⟩
   ·rintro ⟨x,hx,y,hy,he,hne⟩
    refine ⟨y,hy,?_⟩
    rw [←he,v3f a2 hx]
    simpa using hne
  unfold z31
  by_cases hx:∃ x∈a,∃ y∈b,x.n=y.n∧x≠y
  ·rw [hP.2 hx] at key
   simp only [if_true] at key
   simp only [z2c,z2d,z38,Int.reduceLT,Int.reduceEq,Int.reduceLE,h78,h,h79,hle,key,da,db,hx,ne_eq]
  ·have hf:((List.range b.length).any fun i=>match fdC a (b.getD i default).n with|some x=>!decide (x=b.getD i default)|none=>false)=false:=by
    rw [Bool.eq_false_iff]; exact fun e=>hx (hP.1 e)
   rw [hf] at key
   simp only [eAi,if_false] at key
   simp only [z2c,z2d,z38,Int.reduceLT,Int.reduceEq,Int.reduceLE,h78,h,h79,hle,key,da,db,hx,ne_eq]
 ·have e:z31 a b=v2m a b:=by
   unfold z31 v2m
   unfold v2m at h
   split
   ·rfl
   ·rename_i h1
    rw [if_neg h1] at h
    rw [if_pos h]
  rw [e]
  simp only [z2c,z2d,z38,Int.reduceLT,Int.reduceEq,Int.reduceLE,h78,h]
def u4j (a b:List Cd) (i:Nat) (M:List (Int×Cd)):Prop:=(M.map (·.1)).Nodup∧∀ x,z26 M x=if x∈(a.take i).map (·.n) then none else fdC b x
theorem u2u {M:List (Int×Cd)} (h:M≠[]):∃ x c,z26 M x=some c:=by
 match M,h with
 |(x,c)::M,_=>exact ⟨x,c,by simp [z26]⟩
theorem v9q (A B:List (List D)) (a b:List Cd) (ha:a.length≤60) (han:(a.map (·.n)).Nodup) (hbn:(b.map (·.n)).Nodup) (hbt:∀ c∈b,c.t.length≤1000000):
  ∃ r,z5q (v5k std) (v3c fl' (v3v b),(A,(B,(z0p fl a,((a.length:Int),((0:Int),()))))))=some r∧
   ((r= .inl (15,())∧¬ ∀ c∈a,c∈b)∨∃ M,r= .inr (v3c fl' M,(A,(B,())))∧(∀ c∈a,c∈b)∧u4j a b a.length M):=by
 refine y6c (b:=v5k std) a.length (fun (M:List (Int×Cd)) i=>(v3c fl' M,(A,(B,(z0p fl a,((a.length:Int),((i:Int),()))))))) (fun M i=>u4j a b i M∧∀ c∈a.take i,c∈b) _
  (fun M i hi hI=>?_) (fun M hI=>?_) (v3v b) 0 (eAv _) ⟨⟨by unfold v3v; rw [List.map_map]; exact hbn,fun x=>by simp [v4i]⟩,fun c hc=>by simp at hc⟩
 ·obtain ⟨⟨hMn,hM⟩,hin⟩:=hI
  obtain ⟨c,hc⟩:=z1v hi
  obtain ⟨hw,h0⟩:=stp i (by omega)
  have hlt:(i:Int)<a.length:=by omega
  have hrow:=v26 (fl:=fl) hc
  have hni:c.n∉(a.take i).map (·.n):=by
   intro hm
   have:=v5t han hc
   rw [v21] at this
   apply this.1
   unfold v3v
   rw [List.map_map]
   exact hm
  have hv:=hM c.n
  rw [if_neg hni] at hv
  cases hq:fdC b c.n with
  |none=>
   rw [hq] at hv
   have hh:(z26 M c.n).isSome=false:=by rw [hv]; rfl
   refine .inr ⟨.inl (15,()),by simp only [v5k,z2c,z2d,z0p,z09,z5r,y4u,z0p,z09,z38,Int.reduceLT,Int.reduceEq,Int.reduceLE,hrow,hlt,h0,hw,u2a,v5m,hh], .inl ⟨rfl,fun hall=>?_⟩⟩
   rw [v3f hbn (hall c (eAu hc))] at hq
   cases hq
  |some x=>
   rw [hq] at hv
   have hh:(z26 M c.n).isSome=true:=by rw [hv]; rfl
   have m0:=M_0 (fl:=fl') hv
   have m1:=M_1 (fl:=fl') hv
   have m2:=M_2 (fl:=fl') hv
   have m3:=M_3 (fl:=fl') hv
   have md:=u8x (fl:=fl') hv
   have h80:=v8h x c (hbt x (v27 hq).1)
   simp only [z09] at m2 h80
   by_cases e:x=c
   ·subst e
    rw [decide_eq_true rfl] at h80
    refine .inl ⟨v8e M x.n,by simp only [v5k,z2c,z2d,z0p,z09,z5r,y4u,z0p,z09,z38,Int.reduceLT,Int.reduceEq,Int.reduceLE,hrow,hlt,h0,hw,u2a,v5m,hh,m0,m1,m2,m3,h80,md,eAi,if_false],⟨hMn.sublist (v6c _ _),fun y=>?_⟩,fun d hd=>?_⟩
    ·rw [v59 y hMn,hM y,eDw,hc]
     by_cases hy:y=x.n
     ·subst hy; simp
     ·simp [hy]
    ·rw [eDw,hc] at hd
     rcases eBj.1 hd with hd|hd
     ·exact hin d hd
     ·have:d=x:=by simpa using hd
      subst this
      exact (v27 hq).1
   ·rw [decide_eq_false e] at h80
    refine .inr ⟨.inl (15,()),by simp only [v5k,z2c,z2d,z0p,z09,z5r,y4u,z0p,z09,z38,Int.reduceLT,Int.reduceEq,Int.reduceLE,hrow,hlt,h0,hw,u2a,v5m,hh,m0,m1,m2,m3,h80,e], .inl ⟨rfl,fun hall=>?_⟩⟩
    rw [v3f hbn (hall c (eAu hc))] at hq
    exact e (Option.some.inj hq).symm
 ·have hno:¬ (a.length:Int)<a.length:=by omega
  refine ⟨.inr (v3c fl' M,(A,(B,()))),by simp only [v5k,z2c,z2d,hno,if_false,z38,Int.reduceLT,Int.reduceEq,Int.reduceLE], .inr ⟨M,rfl,?_,hI.1⟩⟩
  have:=hI.2
  rwa [eDf] at this
def v5p (a b:List Cd):Int:=if v2m a b≠0 then v2m a b else if ¬ a.Perm b then 15 else if z22 a=z22 b then 0 else 24
theorem u4y (a b:List Cd) (ha:Few a) (hb:Few b):G35 std (z0p fl a,(z0p fl' b,()))=some (v5p a b,()):=by
 have h78:=u0k (fl:=fl) (fl':=fl') a b ha hb
 unfold G35 v5p
 by_cases h:v2m a b=0
 ·obtain ⟨da,db⟩:=v24.1 h
  obtain ⟨a1,a2,a3,a4,a5⟩:=z20 da
  obtain ⟨b1,b2,b3,b4,b5⟩:=z20 db
  have h79:=u0j (fl:=fl') b b1 b2
  have hla:(z0p fl a).length=a.length:=z2h a
  obtain ⟨r,hr,hQ⟩:=v9q (fl:=fl) (fl':=fl') (z0p fl a) (z0p fl' b) a b a1 a2 b2 hb
  rcases hQ with ⟨rfl,hne⟩|⟨M,rfl,hall,hM⟩
  ·have hp:¬ a.Perm b:=fun hp=>hne fun c hc=>hp.mem_iff.1 hc
   simp only [z2c,z2d,z38,Int.reduceLT,Int.reduceEq,Int.reduceLE,h78,h,h79,hla,hr,hp,ne_eq]
  ·have hml:std.mlen (v3c fl' M)=M.length:=by show (v3c fl' M).length=_; simp [v3c,v61.enc]
   have hMx:=hM.2
   rw [eDf] at hMx
   by_cases hme:M=[]
   ·subst hme
    have hp:a.Perm b:=by
     refine z80 a3 b3 fun c=>⟨hall c,fun hc=>?_⟩
     have:=hMx c.n
     rw [v3f b2 hc] at this
     split at this
     ·rename_i hm
      obtain ⟨d,hd,he⟩:=eBb.1 hm
      rw [←z21 b2 d (hall d hd) c hc he]
      exact hd
     ·cases this
    obtain ⟨IX,ss,g66,g67⟩:=v3l (fl:=fl) da
    obtain ⟨IX',ss',g66',g67'⟩:=v3l (fl:=fl') db
    have hla2:=(z59 a3).1.length_eq
    have h81:=u4q (fl:=fun _=>false) (fl':=fun _=>false) (z22 a) (z22 b) (by rw [←hla2]; omega) (fun c hc=>by have:=(a5 c ((z59 a3).1.mem_iff.2 hc)).2.1; omega)
    have tS:∀ E:List (List D),E.take E.length=E:=fun E=>eDf
    have hm0:¬ (0:Int)<((0:Nat):Int):=by omega
    simp only [List.length_nil] at hml
    by_cases e:z22 a=z22 b
    ·rw [decide_eq_true e] at h81
     rw [←e] at g67' h81
     have hs:(if z22 a=z22 b then (0:Int) else 24)=0:=if_pos e
     simp only [z2c,z2d,z38,Int.reduceLT,Int.reduceEq,Int.reduceLE,h78,h,h79,hla,hr,hp,ne_eq,hml,hm0,g66,g67,g66',g67',h81,tS,eAp,eAk,eDd,hs,eDc,eAi,if_false]
    ·rw [decide_eq_false e] at h81
     simp only [z2c,z2d,z38,Int.reduceLT,Int.reduceEq,Int.reduceLE,h78,h,h79,hla,hr,hp,ne_eq,hml,hm0,g66,g67,g66',g67',h81,tS,eAp,eAk,eDd,e,eDc]
   ·have hp:¬ a.Perm b:=by
     intro hp
     obtain ⟨x,c,hc⟩:=u2u hme
     rw [hMx x] at hc
     split at hc
     ·cases hc
     ·rename_i hm
      obtain ⟨h1,h2⟩:=v27 hc
      exact hm (eBb.2 ⟨c,hp.mem_iff.2 h1,h2⟩)
    have hm1:(0:Int)<(M.length:Int):=by
     have:0<M.length:=List.length_pos_iff.2 hme
     omega
    simp only [z2c,z2d,z38,Int.reduceLT,Int.reduceEq,Int.reduceLE,h78,h,h79,hla,hr,hp,ne_eq,hml,hm1]
 ·simp only [z2c,z2d,z38,Int.reduceLT,Int.reduceEq,Int.reduceLE,h78,h,ne_eq]
end Go.Am
end
section
namespace Go.Am
open D12
variable {fl fl':List Int→Bool}
theorem u2d (n k a x:Int) (t:List Int) (ht:t.length≤1000000):u5c std (n,(k,(z09 t,(a,(x,())))))=some (n,(k,(z09 t,(a,(t.contains x,()))))):=by
 have h71:=u4t t x ht
 unfold u5c
 simp only [z2c,z2d,h71]
theorem u0i (c d:Cd) (hc:c.t.length≤1000000) (hd:d.t.length≤1000000):G92 std (c.n,(c.k,(z09 c.t,(c.a,(d.n,(d.k,(z09 d.t,(d.a,()))))))))=some (tch c d,()):=by
 have key:=z6z (b:=v2t std) c.t.length (fun i=>(d.n,(d.k,(z09 d.t,(d.a,(z09 c.t,((c.t.length:Int),((i:Int),()))))))))
  (fun i=>d.t.contains (c.t.getD i default)) (fun i=> .inl (d.n,(d.k,(z09 d.t,(d.a,((i:Int),())))))) (.inr (d.n,(d.k,(z09 d.t,(d.a,()))))) (fun i hi=>by
  obtain ⟨x,hx⟩:=z1v hi
  obtain ⟨hw,h0⟩:=stp i (by omega)
  have hlt:(i:Int)<c.t.length:=by omega
  have r1:=v8q hx
  have h130:=u2d d.n d.k d.a x d.t hd
  rw [z2g hx]
  simp only [z09] at h130
  cases hq:d.t.contains x with
  |true=>
   rw [hq] at h130
   simp only [v2t,z2c,z2d,z09,y8i,w5e,z38,Int.reduceLT,Int.reduceEq,Int.reduceLE,r1,hlt,h0,hw,h130]
  |false=>
   rw [hq] at h130
   simp only [v2t,z2c,z2d,z09,y8i,w5e,z38,Int.reduceLT,Int.reduceEq,Int.reduceLE,r1,hlt,h0,hw,h130]) (by
  have hno:¬ (c.t.length:Int)<c.t.length:=by omega
  simp only [v2t,z2c,z2d,hno,if_false])
 have key:z5q (v2t std) (d.n,(d.k,(z09 d.t,(d.a,(z09 c.t,((c.t.length:Int),((0:Int),())))))))=_:=key
 have e:=x36 c.t default fun x=>d.t.contains x
 have ht:tch c d=(c.t.find? fun x=>d.t.contains x).isSome:=by
  unfold tch
  rw [eCu,eCz,List.find?_isSome]
 rw [ht, ←e]
 have hle:(z09 c.t).length=c.t.length:=z00 c.t
 unfold G92 v6e v6d
 simp only [z2c,z2d,hle,key]
 cases hq:(List.range c.t.length).find? fun i=>d.t.contains (c.t.getD i default) with
 |none=>simp
 |some i=>simp
theorem v5e {a b:List Cd} (ha:(a.map (·.n)).Nodup) (hb:(b.map (·.n)).Nodup):z37 [a,b]=w5r a b:=by
 have h1:z37 [a,b]=b.foldl v3x a:=by
  have:=z70 ha
  unfold z37 at this⊢
  simp only [eDn,List.foldl_nil] at this⊢
  rw [this]
 rw [h1]
 unfold w5r
 have key:∀ (q p:List Cd),(q.map (·.n)).Nodup→(∀ c∈q,∀ d∈p,d∉a→d.n≠c.n)→(∀ d∈a,d∈p)→q.foldl v3x p=p++q.filter fun c=>!(a.any fun d=>decide (d.n=c.n)):=by
  intro q
  induction q with
  |nil=>intro p _ _ _; simp
  |cons c q ih=>
   intro p hq hp hap
   rw [List.map_cons] at hq
   have hq':=eDl.1 hq
   rw [eDn,List.filter_cons]
   by_cases h:(a.any fun d=>decide (d.n=c.n))=true
   ·have hpa:(p.any fun d=>decide (d.n=c.n))=true:=by
     obtain ⟨d,hd,he⟩:=eCz.1 h
     exact eCz.2 ⟨d,hap d hd,he⟩
    have:v3x p c=p:=by unfold v3x; rw [if_pos hpa]
    rw [this,h]
    simp only [eDp,eAi,if_false]
    exact ih p hq'.2 (fun e he d hd hda=>hp e (eCm _ he) d hd hda) hap
   ·have hpa:¬ (p.any fun d=>decide (d.n=c.n))=true:=by
     intro hh
     obtain ⟨d,hd,he⟩:=eCz.1 hh
     by_cases hda:d∈a
     ·exact h (eCz.2 ⟨d,hda,he⟩)
     ·exact hp c (eBq ..) d hd hda (by simpa using he)
    have:v3x p c=p++[c]:=by unfold v3x; rw [if_neg hpa]
    have hf:(a.any fun d=>decide (d.n=c.n))=false:=by simpa using h
    rw [this,hf]
    simp only [eCq,if_true]
    rw [ih (p++[c]) hq'.2 (fun e he d hd hda=>by
     rcases eBj.1 hd with hd|hd
     ·exact hp e (eCm _ he) d hd hda
     ·rw [eBe.1 hd]
      intro hh
      exact hq'.1 (eBb.2 ⟨e,he,hh.symm⟩)) (fun d hd=>eDy _ (hap d hd))]
    simp
 exact key b a hb (fun c _ d hd hda=>absurd hd hda) (fun d hd=>hd)
theorem v9v (a b:List Cd):(w5r a b).length≤a.length+b.length:=by
 unfold w5r; rw [eBu]; have:=List.length_filter_le (fun c=>!(a.any fun d=>decide (d.n=c.n))) b; omega
theorem z76 {a b:List Cd} (h:z31 a b=0):z4x a=0∧z4x b=0∧(∀ x∈a,∀ y∈b,x.n=y.n→x=y)∧((w5r a b).map (·.n)).Nodup∧(w5r a b).length≤120∧(∀ c∈w5r a b,c∈a∨c∈b)∧∀ c∈w5r a b,1≤c.t.length∧c.t.length≤3:=by
 obtain ⟨h1,h2,h3⟩:=z72.1 h
 obtain ⟨a1,a2,a3,a4,a5⟩:=z20 h1
 obtain ⟨b1,b2,b3,b4,b5⟩:=z20 h2
 have hm:∀ c∈w5r a b,c∈a∨c∈b:=fun c hc=>(v2q h3).1 hc
 refine ⟨h1,h2,h3,v4z a2 b2,by have:=v9v a b; omega,hm,fun c hc=>?_⟩
 rcases hm c hc with hc|hc
 ·exact ⟨(a5 c hc).1,(a5 c hc).2.1⟩
 ·exact ⟨(b5 c hc).1,(b5 c hc).2.1⟩
theorem v4q {a b:List Cd} (h:z31 a b=0):∃ ss,G66 std ([[.list false 4 (z0p fl a)],[.list false 4 (z0p fl b)]],())=some (z0p fl (w5r a b),(z46 (ixM (w5r a b)),(z23 ss,(0,((w5r a b).length,())))))∧Rp ss (w5r a b) (z63 a b):=by
 obtain ⟨da,db,hc,hn,hl,hm,ht⟩:=z76 h
 obtain ⟨a1,a2,a3,a4,a5⟩:=z20 da
 obtain ⟨b1,b2,b3,b4,b5⟩:=z20 db
 have hk:u9a (w5r a b) [a,b]:=by
  refine ⟨hn,fun m hm' c hcm=>?_,fun m hm'=>?_⟩
  ·rcases eAz.1 hm' with rfl|hm'
   ·exact (v2q hc).2 (.inl hcm)
   ·rw [eBe.1 hm'] at hcm
    exact (v2q hc).2 (.inr hcm)
  ·rcases eAz.1 hm' with rfl|hm'
   ·exact ⟨a1,a3,fun c hcm=>⟨(a5 c hcm).2.2,by have:=(a5 c hcm).2.1; omega⟩⟩
   ·rw [eBe.1 hm']
    exact ⟨b1,b3,fun c hcm=>⟨(b5 c hcm).2.2,by have:=(b5 c hcm).2.1; omega⟩⟩
 have e:=v5e a2 b2
 have g:=u0n (fl:=fl) [a,b] (by simp) (by rw [e]; exact hk)
 have hs:=v65 (g:=w5r a b) (dks:=[a,b]) hn (by omega) (fun m hm'=>⟨hk.mem m hm',(hk.wf m hm').2.1,fun c hcm=>((hk.wf m hm').2.2 c hcm).1⟩)
 rw [e] at g
 exact ⟨_,g,hs.congr fun d _ c _=>by simp [z63]⟩
theorem v90 {R:Cd→Cd→Bool} (ht:∀ x y z,R x y=true→R y z=true→R x z=true):∀ (n:Nat) (rem:List Cd),rem.length≤n→(∀ x∈rem,R x x=false)→∀ c∈rem,∃ m∈rem,∀ d∈rem,R d m=false
 |0,rem,hl,_,c,hc=>by rw [eBn.1 (Nat.le_zero.1 hl)] at hc; cases hc
 |n+1,rem,hl,hi,c,hc=>by
  by_cases h:∃ d∈rem,R d c=true
  ·obtain ⟨d,hd,hdc⟩:=h
   have hsub:(rem.filter fun x=>R x c).length<rem.length:=by
    refine Nat.lt_of_le_of_ne (List.length_filter_le _ _) fun e=>?_
    have:=List.length_filter_eq_length_iff.1 e c hc
    rw [hi c hc] at this; cases this
   obtain ⟨m,hm,hmin⟩:=v90 ht n (rem.filter fun x=>R x c) (by omega) (fun x hx=>hi x (eDa.1 hx).1) d (eDa.2 ⟨hd,hdc⟩)
   obtain ⟨hm1,hm2⟩:=eDa.1 hm
   refine ⟨m,hm1,fun e he=>?_⟩
   cases hq:R e m with
   |false=>rfl
   |true=>
    have:=hmin e (eDa.2 ⟨he,ht e m c hq hm2⟩)
    rw [hq] at this; cases this
  ·refine ⟨c,hc,fun d hd=>?_⟩
   cases hq:R d c with
   |false=>rfl
   |true=>exact absurd ⟨d,hd,hq⟩ h
theorem v6o {R:Cd→Cd→Bool} {g:List Cd} (ht:∀ x y z,R x y=true→R y z=true→R x z=true) (hi:∀ x∈g,R x x=false):u9b R g:=by
 intro rem hs hne
 cases hq:best R rem with
 |some c=>exact ⟨c,rfl⟩
 |none=>
  exfalso
  obtain ⟨c,hc⟩:=List.exists_mem_of_ne_nil rem hne
  obtain ⟨m,hm,hmin⟩:=v90 ht rem.length rem (eAk _) (fun x hx=>hi x (hs x hx)) c hc
  obtain ⟨d,hd,hdm⟩:=(v3q R).1 hq m hm
  rw [hmin d hd] at hdm; cases hdm
theorem v8w {a b:List Cd} (hc:∀ x∈a,∀ y∈b,x.n=y.n→x=y) (x y z:Cd) (h1:kn a b x y=true) (h2:kn a b y z=true):kn a b x z=true:=
 (v2l hc).2 (((v2l hc).1 h1).trans ((v2l hc).1 h2))
def Unk (B:Cd→Cd→Bool) (c d:Cd):Bool:=tch c d&&!B d c&&!B c d
theorem v9n (IX:List (D×D)) (n10 n11 n16:Nat) (n12 n13:Int) (g:List Cd) (hgl:g.length≤128) (ht:∀ c∈g,c.t.length≤1000000) {B:Cd→Cd→Bool} (ss:List Sg) (hr:Rp ss g B) (i:Nat) {c:Cd} (hi:g[i]?=some c):
  z5q (v4g std) (z0p fl g,(IX,(z23 ss,(0,(g.length,(c.n,(c.k,(z09 c.t,(c.a,((i:Int),(n10,(n11,(n12,(n13,(0,(i,(n16,((i:Int),((0:Int),())))))))))))))))))))=
   some (if (g.take i).any (Unk B c)=true then .inl (16,()) else .inr (z0p fl g,(IX,(z23 ss,(0,(g.length,(n10,(n11,(n12,(n13,())))))))))):=by
 have hil:i<g.length:=(eAd.1 hi).1
 have key:=z87 (b:=v4g std) i (fun k=>(z0p fl g,(IX,(z23 ss,(0,(g.length,(c.n,(c.k,(z09 c.t,(c.a,((i:Int),(n10,(n11,(n12,(n13,(0,(i,(n16,((i:Int),((k:Int),())))))))))))))))))))) (fun k=>Unk B c (g.getD k default)) (.inl (16,())) (.inr (z0p fl g,(IX,(z23 ss,(0,(g.length,(n10,(n11,(n12,(n13,()))))))))))
  (fun k hk=>by
   obtain ⟨d,hd⟩:=z1v (show k<g.length by omega)
   obtain ⟨hw,h0⟩:=stp k (by omega)
   have hlt:(k:Int)<(i:Int):=by omega
   have hi0:(0:Int)≤(i:Int):=by omega
   have hkg:(k:Int)<(g.length:Int):=by omega
   have hig:(i:Int)<(g.length:Int):=by omega
   have hrow:=v26 (fl:=fl) hd
   have h92:=u0i c d (ht c (eAu hi)) (ht d (eAu hd))
   have hget:∀ j,j<g.length→(ss.map eS)[j]?=some (eS (ss.getD j Sg.none)):=fun j hj=>by
    rw [eAg,eCi,eAa (by rw [hr.1]; exact hj)]; rfl
   have ri:=hget i hil
   have rk:=hget k (by omega)
   have hbl:(ss.map eS).length=g.length:=by rw [eBt,hr.1]
   have t1:=v23 (ss.getD i Sg.none) k (by omega)
   have t2:=v23 (ss.getD k Sg.none) i (by omega)
   have e1:=hr.2 i c hi k
   have e2:=hr.2 k d hd i
   rw [hd] at e1
   rw [hi] at e2
   simp only at e1 e2
   rw [e1] at t1
   rw [e2] at t2
   rw [z2g hd]
   unfold Unk
   simp only [z09] at h92
   cases hq:tch c d with
   |false=>
    rw [hq] at h92
    simp only [v4g,z2c,z2d,z0p,z09,z5r,y4u,z0p,z23,z09,z24,z36,z35,z38,Int.reduceLT,Int.reduceEq,Int.reduceLE,hlt,h0,hw,hrow,h92,eDs,if_false,eAi]
   |true=>
    rw [hq] at h92
    cases hb1:B d c with
    |true=>
     rw [hb1] at t1
     simp only [v4g,z2c,z2d,z0p,z09,z5r,y4u,z0p,z23,z09,z24,z36,z35,z38,Int.reduceLT,Int.reduceEq,Int.reduceLE,hlt,h0,hw,hrow,h92,hi0,hig,hkg,hbl,ri,rk,t1,eDs,if_false,eAi]
    |false=>
     rw [hb1] at t1
     cases hb2:B c d with
     |true=>
      rw [hb2] at t2
      simp only [v4g,z2c,z2d,z0p,z09,z5r,y4u,z0p,z23,z09,z24,z36,z35,z38,Int.reduceLT,Int.reduceEq,Int.reduceLE,hlt,h0,hw,hrow,h92,hi0,hig,hkg,hbl,ri,rk,t1,t2,eDs,if_false,eAi]
     |false=>
      rw [hb2] at t2
      simp only [v4g,z2c,z2d,z0p,z09,z5r,y4u,z0p,z23,z09,z24,z36,z35,z38,Int.reduceLT,Int.reduceEq,Int.reduceLE,hlt,h0,hw,hrow,h92,hi0,hig,hkg,hbl,ri,rk,t1,t2,eDc,if_true]) (by
  have hno:¬ (i:Int)<(i:Int):=by omega
  simp only [v4g,z2c,z2d,hno,if_false])
 have key:z5q (v4g std) (z0p fl g,(IX,(z23 ss,(0,(g.length,(c.n,(c.k,(z09 c.t,(c.a,((i:Int),(n10,(n11,(n12,(n13,(0,(i,(n16,((i:Int),((0:Int),())))))))))))))))))))=_:=key
 rw [key]
 congr 1
 have e:((List.range i).any fun k=>Unk B c (g.getD k default))=(g.take i).any (Unk B c):=by
  rw [←x2s (g.take i) default (Unk B c),eBv,Nat.min_eq_left (by omega)]
  rw [eCu,eCz,eCz]
  have:∀ k,k<i→(g.take i).getD k default=g.getD k default:=fun k hk=>by
   rw [eCi,eCi,List.getElem?_take,if_pos hk]
  constructor<;>rintro ⟨k,hk,h⟩<;>refine ⟨k,hk,?_⟩
  ·rw [this k (eBo.1 hk)]; exact h
  ·rw [←this k (eBo.1 hk)]; exact h
 rw [e]
theorem v9o (IX:List (D×D)) (g:List Cd) (hgl:g.length≤128) (ht:∀ c∈g,c.t.length≤1000000) {B:Cd→Cd→Bool} (ss:List Sg) (hr:Rp ss g B):
  z5q (v6x std) (z0p fl g,(IX,(z23 ss,(0,(g.length,(0,(g.length,((g.length:Int),((0:Int),())))))))))=
   some (if ((List.range g.length).any fun i=>(g.take i).any (Unk B (g.getD i default)))=true then .inl (16,()) else .inr (z0p fl g,(IX,(z23 ss,(0,(g.length,())))))):=by
 have key:=z87 (b:=v6x std) g.length (fun i=>(z0p fl g,(IX,(z23 ss,(0,(g.length,(0,(g.length,((g.length:Int),((i:Int),())))))))))) (fun i=>(g.take i).any (Unk B (g.getD i default))) (.inl (16,())) (.inr (z0p fl g,(IX,(z23 ss,(0,(g.length,()))))))
  (fun i hi=>by
   obtain ⟨c,hc⟩:=z1v hi
   obtain ⟨hw,h0⟩:=stp i (by omega)
   have hlt:(i:Int)<(g.length:Int):=by omega
   have hle:(i:Int)≤(g.length:Int):=by omega
   have hrow:=v26 (fl:=fl) hc
   have h2:=v9n (fl:=fl) IX 0 g.length i (g.length:Int) (i:Int) g hgl ht ss hr i hc
   rw [z2g hc]
   simp only [z0p,z09] at h2
   cases hq:(g.take i).any (Unk B c) with
   |true=>
    rw [hq] at h2
    simp only [v6x,z2c,z2d,z0p,z09,z5r,y4u,z0p,z09,z38,Int.reduceLT,Int.reduceEq,Int.reduceLE,hlt,h0,hw,hrow,h2,hle,eDt,eDc,eDr,eAt,Nat.sub_zero,if_true]
   |false=>
    rw [hq] at h2
    simp only [v6x,z2c,z2d,z0p,z09,z5r,y4u,z0p,z09,z38,Int.reduceLT,Int.reduceEq,Int.reduceLE,hlt,h0,hw,hrow,h2,hle,eDt,eDc,eDr,eAt,Nat.sub_zero,eAi,if_false]) (by
  have hno:¬ (g.length:Int)<(g.length:Int):=by omega
  simp only [v6x,z2c,z2d,hno,if_false])
 exact key
theorem v63 {a b:List Cd} (hn:((w5r a b).map (·.n)).Nodup):((List.range (w5r a b).length).any fun i=>((w5r a b).take i).any (Unk (kn a b) ((w5r a b).getD i default)))=true↔unkn a b:=by
 unfold unkn
 generalize w5r a b=g at*
 rw [eCz]
 constructor
 ·rintro ⟨i,hi,h⟩
  obtain ⟨c,hc⟩:=z1v (eBo.1 hi)
  rw [z2g hc] at h
  obtain ⟨d,hd,hu⟩:=eCz.1 h
  unfold Unk at hu
  simp only [eAb,eBy] at hu
  refine ⟨c,eAu hc,d,List.mem_of_mem_take hd,?_,hu.1.1,hu.2,hu.1.2⟩
  rintro rfl
  obtain ⟨j,hj,hje⟩:=eDb.1 hd
  rw [eBv] at hj
  rw [List.getElem_take] at hje
  have:=v2v hn (i:=j) (by rw [eAa (by omega),hje])
  have:=v2v hn hc
  omega
 ·rintro ⟨x,hx,y,hy,hne,ht,h1,h2⟩
  obtain ⟨i,hi,hie⟩:=eDb.1 hx
  obtain ⟨j,hj,hje⟩:=eDb.1 hy
  have hi':g[i]?=some x:=by rw [eAa hi,hie]
  have hj':g[j]?=some y:=by rw [eAa hj,hje]
  rcases Nat.lt_trichotomy i j with h|h|h
  ·refine ⟨j,eBo.2 hj,eCz.2 ⟨x,eAu (i:=i) (by rw [List.getElem?_take,if_pos h]; exact hi'),?_⟩⟩
   rw [z2g hj']
   simp [Unk,v3d y x,ht,h1,h2]
  ·subst h
   rw [hi'] at hj'
   exact absurd (Option.some.inj hj') hne
  ·refine ⟨i,eBo.2 hi,eCz.2 ⟨y,eAu (i:=j) (by rw [List.getElem?_take,if_pos h]; exact hj'),?_⟩⟩
   rw [z2g hi']
   simp [Unk,ht,h1,h2]
theorem u0q (a b:List Cd) (ha:Few a) (hb:Few b):G46 std (z0p fl a,(z0p fl b,()))=some (z0p (fun _=>false) (v3j a b),(z57 a b,())):=by
 have h90:=v8g (fl:=fl) (fl':=fl) a b ha hb
 unfold G46 v3j z57
 by_cases h:z31 a b=0
 ·obtain ⟨da,db,hc,hn,hl,hm,ht⟩:=z76 h
  obtain ⟨a1,a2,a3,a4,a5⟩:=z20 da
  obtain ⟨b1,b2,b3,b4,b5⟩:=z20 db
  obtain ⟨ss,g66,hr⟩:=v4q (fl:=fl) h
  by_cases h60:60<(w5r a b).length
  ·have h60':(60:Int)<((w5r a b).length:Int):=by omega
   simp only [z2c,z2d,z38,Int.reduceLT,Int.reduceEq,Int.reduceLE,h90,h,g66,h60,h60',ne_eq]
   rfl
  ·have h60':¬ (60:Int)<((w5r a b).length:Int):=by omega
   obtain ⟨ss',g70,hr0⟩:=u4u (z0p fl (w5r a b)) (z46 (ixM (w5r a b))) 0 (w5r a b) (by omega) ss hr
   have hr':Rp ss' (w5r a b) (kn a b):=hr0.congr fun x _ y _=>by
    have:=congrFun (congrFun (u2v a3 b3 hc) x) y
    exact this
   have g91:=u4o (z0p fl (w5r a b)) (z46 (ixM (w5r a b))) 0 (w5r a b) (by omega) ss' hr'
   by_cases hci:circ a b
   ·have hq:((w5r a b).any fun c=>kn a b c c)=true:=eCz.2 hci
    rw [hq] at g91
    simp only [z2c,z2d,z38,Int.reduceLT,Int.reduceEq,Int.reduceLE,h90,h,g66,h60,h60',g70,g91,hci,ne_eq]
    rfl
   ·have hq:((w5r a b).any fun c=>kn a b c c)=false:=by
     rw [Bool.eq_false_iff]
     exact fun e=>hci (eCz.1 e)
    rw [hq] at g91
    have hb1:=v9o (fl:=fl) (z46 (ixM (w5r a b))) (w5r a b) (by omega) (fun c hc=>by have:=(ht c hc).2; omega) ss' hr'
    by_cases hu:unkn a b
    ·rw [(v63 hn).2 hu] at hb1
     simp only [if_true] at hb1
     simp only [z2c,z2d,z38,Int.reduceLT,Int.reduceEq,Int.reduceLE,h90,h,g66,h60,h60',g70,g91,hci,hb1,hu,ne_eq]
     rfl
    ·have:((List.range (w5r a b).length).any fun i=>((w5r a b).take i).any (Unk (kn a b) ((w5r a b).getD i default)))=false:=by
      rw [Bool.eq_false_iff]
      exact fun e=>hu ((v63 hn).1 e)
     rw [this] at hb1
     simp only [eAi,if_false] at hb1
     have hirr:∀ x∈w5r a b,kn a b x x=false:=fun x hx=>by
      cases hq:kn a b x x with
      |false=>rfl
      |true=>exact absurd ⟨x,hx,hq⟩ hci
     have g67:=u0m (fl:=fl) (z46 (ixM (w5r a b))) (w5r a b) ss' hr' (by omega) hn (v6o (v8w hc) hirr) (fun c hc=>⟨(ht c hc).1,by have:=(ht c hc).2; omega⟩)
     simp only [z2c,z2d,z38,Int.reduceLT,Int.reduceEq,Int.reduceLE,h90,h,g66,h60,h60',g70,g91,hci,hb1,hu,g67,ne_eq]
 ·simp only [z2c,z2d,z38,Int.reduceLT,Int.reduceEq,Int.reduceLE,h90,h,ne_eq]
  rfl
end Go.Am
end
section
namespace Go.Am
open D12
variable {fl fl':List Int→Bool}
def RvI (l L:List Int) (i:Nat):Prop:=L.length=l.length∧2*i≤l.length+1∧∀ k,k<l.length→L[k]?=if k<i∨l.length - i≤k then l[l.length - 1 - k]? else l[k]?
theorem v8n (l:List Int) (hl:l.length≤1000000):v3a std (z09 l,())=some (z09 l.reverse,()):=by
 have key:=w4n (b:=v2z std) (fun (t:List Int×Nat)=>(z09 t.1,((t.2:Int),((l.length:Int) - 1 - (t.2:Int),())))) (fun t=>RvI l t.1 t.2) (fun t=>l.length+1 - t.2) (fun r=>r=(z09 l.reverse,()))
  (fun t hI=>by
   obtain ⟨L,i⟩:=t
   obtain ⟨h1,h2,h3⟩:=hI
   simp only at h1 h2 h3
   by_cases hlt:i<l.length - 1 - i
   ·left
    have hj:l.length - 1 - i<l.length:=by omega
    have ji:(l.length:Int) - 1 - (i:Int)=((l.length - 1 - i:Nat):Int):=by omega
    obtain ⟨x,hx⟩:=z1v (show i<L.length by omega)
    obtain ⟨y,hy⟩:=z1v (show l.length - 1 - i<L.length by omega)
    have c1:(i:Int)<((l.length - 1 - i:Nat):Int):=by omega
    have c2:(0:Int)≤(i:Int):=by omega
    have c3:(0:Int)≤((l.length - 1 - i:Nat):Int):=by omega
    have c4:(i:Int)<(l.length:Int):=by omega
    have c5:((l.length - 1 - i:Nat):Int)<(l.length:Int):=by omega
    have w1:IntKind.i64.wrap ((i:Int)+1)=((i+1:Nat):Int):=x9z (by omega)
    have w2:std.ar .sub .i64 ((l.length - 1 - i:Nat):Int) 1=(l.length:Int) - 1 - ((i+1:Nat):Int):=by
     rw [z8z,w2o _ (by omega) (by omega)]; omega
    have rx:=v8q hx
    have ry:=v8q hy
    have hle:(L.map eI).length=l.length:=by simp [h1]
    have hle2:∀ z,((L.map eI).set i z).length=l.length:=fun z=>by simp [h1]
    have hset:((L.map eI).set i [D.int .i64 y]).set (l.length - 1 - i) [D.int .i64 x]=((L.set i y).set (l.length - 1 - i) x).map eI:=by simp [List.map_set,eI]
    have ry2:((L.map eI).set i [D.int .i64 y])[l.length - 1 - i]?=some (eI y):=by rw [eFa (by omega),ry]
    have hle3:((L.set i y).set (l.length - 1 - i) x).length=l.length:=by simp [h1]
    refine ⟨((L.set i y).set (l.length - 1 - i) x,i+1),?_,⟨by simp [h1],by omega,fun k hk=>?_⟩,by simp only; omega⟩
    ·simp only [ji,v2z,z2c,z2d,z09,y8i,w5e,z38,Int.reduceLT,Int.reduceEq,Int.reduceLE,c1,c2,c3,c4,c5,w1,w2,rx,ry,ry2,hle,hle2,hset,hle3]
    ·have gx:=h3 i (by omega)
     have gy:=h3 (l.length - 1 - i) hj
     rw [hx,if_neg (by omega)] at gx
     rw [hy,if_neg (by omega)] at gy
     by_cases e1:k=l.length - 1 - i
     ·subst e1
      rw [List.getElem?_set_self (by rw [List.length_set]; omega),if_pos (by omega),show l.length - 1 - (l.length - 1 - i)=i by omega,gx]
     ·rw [eFa (by omega)]
      by_cases e2:k=i
      ·subst e2
       rw [List.getElem?_set_self (by omega),if_pos (by omega),gy]
      ·rw [eFa (by omega),h3 k hk]
       have:(k<i∨l.length - i≤k)↔(k<i+1∨l.length - (i+1)≤k):=by omega
       simp only [this]
   ·right
    have c1:¬ (i:Int)<(l.length:Int) - 1 - (i:Int):=by omega
    refine ⟨(z09 L,()),by simp only [v2z,z2c,z2d,c1,if_false,z38,Int.reduceLT,Int.reduceEq,Int.reduceLE],?_⟩
    have:L=l.reverse:=by
     apply eBd
     intro k
     rcases eBw k l.length with hk|hk
     ·rw [h3 k hk,List.getElem?_reverse hk]
      split
      ·rfl
      ·have:l.length - 1 - k=k:=by omega
       rw [this]
     ·rw [eCt (by omega),eCt (by simp; omega)]
    rw [this]) (l,0) ⟨rfl,by omega,fun k hk=>by rw [if_neg (by omega)]⟩
 obtain ⟨r,h1,rfl⟩:=key
 have h1:z5q (v2z std) (z09 l,((0:Int),((l.length:Int) - 1 - ((0:Nat):Int),())))=_:=h1
 have e0:(l.length:Int) - 1 - ((0:Nat):Int)=(l.length:Int) - 1:=by omega
 rw [e0] at h1
 have w:std.ar .sub .i64 (l.length:Int) 1=(l.length:Int) - 1:=by rw [z8z,w2o _ (by omega) (by omega)]
 have hle:(z09 l).length=l.length:=z00 l
 unfold v3a
 simp only [z2c,z2d,hle,w,h1]
def Rdy (B:Cd→Cd→Bool) (rem:List Cd) (c:Cd):Bool:=decide (c∈rem)&&w7b B rem c
theorem v9l (IX:List (D×D)) (off len:Nat) (C:List (List D)) (g rem:List Cd) (ss:List Sg) {B:Cd→Cd→Bool} (hr:Rp ss g B) (hgl:g.length≤128) (hi:Inj g) (hsub:∀ x∈rem,x∈g) {s:Sg} (hd:v5n g rem s):
  z5q (v4y std) (C,(IX,(z23 ss,((s.a:Int),((s.b:Int),(false,(off,(len,((s.a:Int),((s.b:Int),((g.length:Int),((0:Int),()))))))))))))=
   some (match (List.range g.length).find? fun i=>Rdy B rem (g.getD i default) with
    |some i=> .inl (C,(IX,(z23 ss,(((s.wth i).a:Int),(((s.wth i).b:Int),(true,(off,(len,((s.a:Int),((s.b:Int),()))))))))))
    |none=> .inr (C,(IX,(z23 ss,((s.a:Int),((s.b:Int),(false,(off,(len,((s.a:Int),((s.b:Int),()))))))))))):=by
 have key:=z6z (b:=v4y std) g.length (fun i=>(C,(IX,(z23 ss,((s.a:Int),((s.b:Int),(false,(off,(len,((s.a:Int),((s.b:Int),((g.length:Int),((i:Int),()))))))))))))) (fun i=>Rdy B rem (g.getD i default))
  (fun i=> .inl (C,(IX,(z23 ss,(((s.wth i).a:Int),(((s.wth i).b:Int),(true,(off,(len,((s.a:Int),((s.b:Int),()))))))))))) (.inr (C,(IX,(z23 ss,((s.a:Int),((s.b:Int),(false,(off,(len,((s.a:Int),((s.b:Int),())))))))))))
  (fun j hj=>by
   obtain ⟨d,hdj⟩:=z1v hj
   obtain ⟨hw,h0⟩:=stp j (by omega)
   have hlt:(j:Int)<g.length:=by omega
   have h74:=v23 s j (by omega)
   rw [hd j d hdj] at h74
   have hsg:ss[j]?=some (ss.getD j Sg.none):=by rw [eCi,eAa (by rw [hr.1]; exact hj)]; rfl
   have hrow:(ss.map eS)[j]?=some (eS (ss.getD j Sg.none)):=by rw [eAg,hsg]; rfl
   have hbl:(ss.map eS).length=g.length:=by rw [eBt,hr.1]
   have h132:=v8k (ss.getD j Sg.none) s
   have hrd:=v4m hr hgl hi hsub hd hdj
   have h72:=v8i s j (by omega)
   rw [z2g hdj]
   unfold Rdy
   by_cases hm:d∈rem
   ·by_cases hf:w7b B rem d=true
    ·obtain ⟨ea,eb⟩:=hrd.2 hf
     rw [ea,eb] at h132
     simp only [v4y,z2c,z2d,z23,z24,z36,z35,z38,Int.reduceLT,Int.reduceEq,Int.reduceLE,hlt,h0,hw,h74,hm,hrow,hbl,h132,h72,hf,eDc,if_true]
    ·have hne:¬ ((((ss.getD j Sg.none).and s).a:Int)=((ss.getD j Sg.none).a:Int)∧(((ss.getD j Sg.none).and s).b:Int)=((ss.getD j Sg.none).b:Int)):=fun h=>hf (hrd.1 ⟨by omega,by omega⟩)
     have hf':w7b B rem d=false:=by simpa using hf
     by_cases h1:(((ss.getD j Sg.none).and s).a:Int)=((ss.getD j Sg.none).a:Int)
     ·have h2:¬ (((ss.getD j Sg.none).and s).b:Int)=((ss.getD j Sg.none).b:Int):=fun h=>hne ⟨h1,h⟩
      simp only [v4y,z2c,z2d,z23,z24,z36,z35,z38,Int.reduceLT,Int.reduceEq,Int.reduceLE,hlt,h0,hw,h74,hm,hrow,hbl,h132,h1,h2,hf',Bool.and_false,eAi,if_false]
     ·simp only [v4y,z2c,z2d,z23,z24,z36,z35,z38,Int.reduceLT,Int.reduceEq,Int.reduceLE,hlt,h0,hw,h74,hm,hrow,hbl,h132,h1,hf',Bool.and_false,eAi,if_false]
   ·simp only [v4y,z2c,z2d,z23,z24,z36,z35,z38,Int.reduceLT,Int.reduceEq,Int.reduceLE,hlt,h0,hw,h74,hm,hrow,hbl,eDs,eAi,if_false]) (by
  have hno:¬ (g.length:Int)<g.length:=by omega
  simp only [v4y,z2c,z2d,hno,if_false,z38,Int.reduceLT,Int.reduceEq,Int.reduceLE])
 exact key
structure u5k (B:Cd→Cd→Bool) (g rem:List Cd) (s:Sg):Prop where
 sub:∀ x∈rem,x∈g
 nd:rem.Nodup
 done:v5n g rem s
 circ:∀ z∈g,Tc B z z→z∈rem
theorem v9m (IX:List (D×D)) (off len:Nat) (C:List (List D)) (g:List Cd) (ss:List Sg) {B:Cd→Cd→Bool} (hB:∀ x y,B x y=true→x∈g) (hr:Rp ss g B) (hgl:g.length≤128) (hn:(g.map (·.n)).Nodup):
  ∃ rem s,z5q (v6w std) (C,(IX,(z23 ss,((0:Int),((0:Int),(true,(off,(len,()))))))))=some (C,(IX,(z23 ss,((s.a:Int),((s.b:Int),(off,(len,())))))))∧u5k B g rem s∧∀ c∈rem,w7b B rem c=false:=by
 have hi:=z21 hn
 have key:=w4n (b:=v6w std) (fun (t:List Cd×Sg×Bool)=>(C,(IX,(z23 ss,((t.2.1.a:Int),((t.2.1.b:Int),(t.2.2,(off,(len,()))))))))) (fun t=>u5k B g t.1 t.2.1∧(t.2.2=false→∀ c∈t.1,w7b B t.1 c=false)) (fun t=>2*t.1.length+(if t.2.2=true then 1 else 0))
  (fun r=>∃ rem s,r=(C,(IX,(z23 ss,((s.a:Int),((s.b:Int),(off,(len,())))))))∧u5k B g rem s∧∀ c∈rem,w7b B rem c=false)
  (fun t hI=>by
   obtain ⟨rem,s,more⟩:=t
   obtain ⟨hL,hE⟩:=hI
   simp only at hL hE
   cases more with
   |false=>exact .inr ⟨(C,(IX,(z23 ss,((s.a:Int),((s.b:Int),(off,(len,()))))))),by simp only [v6w,z2c,z2d,z38,Int.reduceLT,Int.reduceEq,Int.reduceLE],rem,s,rfl,hL,hE rfl⟩
   |true=>
    left
    have h2:=v9l IX off len C g rem ss hr hgl hi hL.sub hL.done
    have hbl:(z23 ss).length=g.length:=by rw [v4d,hr.1]
    cases hq:(List.range g.length).find? fun i=>Rdy B rem (g.getD i default) with
    |none=>
     rw [hq] at h2
     refine ⟨(rem,s,false),by simp only [v6w,z2c,z2d,z38,Int.reduceLT,Int.reduceEq,Int.reduceLE,hbl,h2],⟨hL,fun _ c hc=>?_⟩,by simp⟩
     rw [eDj] at hq
     obtain ⟨i,hi',he⟩:=eDb.1 (hL.sub c hc)
     have:=hq i (eBo.2 hi')
     rw [z2g (by rw [eAa hi',he])] at this
     simpa [Rdy,hc] using this
    |some k=>
     rw [hq] at h2
     have hk:=eBo.1 (eDe hq)
     have hP:=eDm hq
     obtain ⟨c,hc⟩:=z1v hk
     rw [z2g hc] at hP
     unfold Rdy at hP
     rw [eAb,decide_eq_true_eq] at hP
     refine ⟨(rm c rem,s.wth k,true),by simp only [v6w,z2c,z2d,z38,Int.reduceLT,Int.reduceEq,Int.reduceLE,hbl,h2],⟨⟨fun x hx=>hL.sub x (z41.1 hx).1,hL.nd.filter _,fun j d hj=>?_,?_⟩,by simp⟩,?_⟩
     ·simp only
      rw [Sg.has_wth _ (by omega),hL.done j d hj]
      by_cases e:j=k
      ·subst e
       rw [hc] at hj; cases hj
       simp [z41]
      ·have hdc:d≠c:=by
        rintro rfl
        exact e ((v2v hn hj).symm.trans (v2v hn hc))
       simp [z41,e,hdc]
     ·exact v5b hB hL.circ ((z33 B).1 hP.2)
     ·have:=v3h hL.nd hP.1
      simp only [if_true]; omega) (g,Sg.none,true) ⟨⟨fun x h=>h,z28 hn,fun k c hk=>by rw [Sg.has_none]; simp [eAu hk],fun z h _=>h⟩,fun h=>by cases h⟩
 obtain ⟨r,h1,rem,s,rfl,h2,h3⟩:=key
 exact ⟨rem,s,h1,h2,h3⟩
end Go.Am
end
section
namespace Go.Am
open D12
variable {fl fl':List Int→Bool}
theorem u4k (C B:List (List D)) (off len:Nat) (g:List Cd) (hgl:g.length≤128) (s:Sg) (c:Cd) (hc:c∈g) (k a:Int) (t:List (List D)):
  G99 std (C,(z46 (ixM g),(B,((s.a:Int),((s.b:Int),(off,(len,(c.n,(k,(t,(a,())))))))))))=some (C,(z46 (ixM g),(B,((s.a:Int),((s.b:Int),(off,(len,(!(s.has (gi g c)),())))))))):=by
 have hv:=v7k hc
 have hh:(z26 (ixM g) c.n).isSome=true:=by rw [hv]; rfl
 have hge:=v9w hv
 have h74:=v23 s (gi g c) (by have:=v5a hc; omega)
 unfold G99
 cases hq:s.has (gi g c) with
 |true=>rw [hq] at h74; simp only [z2c,z2d,z38,Int.reduceLT,Int.reduceEq,Int.reduceLE,v8p,v3y,hh,hge,h74,eAi,if_false]
 |false=>rw [hq] at h74; simp only [z2c,z2d,z38,Int.reduceLT,Int.reduceEq,Int.reduceLE,v8p,v3y,hh,hge,h74,eAi,if_false]
theorem u4m (B:List (List D)) (g rem:List Cd) (hgl:g.length≤128) (hn:(g.map (·.n)).Nodup) (s:Sg) (hd:v5n g rem s):
  G98 std (z0p fl g,(z46 (ixM g),(B,((s.a:Int),((s.b:Int),(0,(g.length,(0,(g.length,())))))))))=some (z0p fl g,(z46 (ixM g),(B,((s.a:Int),((s.b:Int),(0,(g.length,((match (List.range g.length).find? fun i=>decide (g.getD i default∈rem) with|some i=>(i:Int)|none=> -1),())))))))):=by
 have key:=z6z (b:=v6p std) g.length (fun i=>(z0p fl g,(z46 (ixM g),(B,((s.a:Int),((s.b:Int),(0,(g.length,(0,(g.length,((g.length:Int),((i:Int),())))))))))))) (fun i=>decide (g.getD i default∈rem))
  (fun i=> .inl (z0p fl g,(z46 (ixM g),(B,((s.a:Int),((s.b:Int),(0,(g.length,((i:Int),()))))))))) (.inr (z0p fl g,(z46 (ixM g),(B,((s.a:Int),((s.b:Int),(0,(g.length,()))))))))
  (fun i hi=>by
   obtain ⟨c,hc⟩:=z1v hi
   obtain ⟨hw,h0⟩:=stp i (by omega)
   have hlt:(i:Int)<(g.length:Int):=by omega
   have hrow:=v26 (fl:=fl) hc
   have h99:=u4k (z0p fl g) B 0 g.length g hgl s c (eAu hc) c.k c.a (z09 c.t)
   rw [v2v hn hc,hd i c hc] at h99
   rw [z2g hc]
   simp only [z0p,z09] at h99
   by_cases hm:c∈rem
   ·simp only [hm,decide_true,eDp,eCq] at h99
    simp only [v6p,z2c,z2d,z0p,z09,z5r,y4u,z0p,z09,z38,Int.reduceLT,Int.reduceEq,Int.reduceLE,hlt,h0,hw,hrow,h99,hm]
   ·simp only [hm,decide_false,eDp,eCq] at h99
    simp only [v6p,z2c,z2d,z0p,z09,z5r,y4u,z0p,z09,z38,Int.reduceLT,Int.reduceEq,Int.reduceLE,hlt,h0,hw,hrow,h99,hm,eAi,if_false]) (by
  have hno:¬ (g.length:Int)<(g.length:Int):=by omega
  simp only [v6p,z2c,z2d,hno,if_false,z38,Int.reduceLT,Int.reduceEq,Int.reduceLE])
 have key:z5q (v6p std) (z0p fl g,(z46 (ixM g),(B,((s.a:Int),((s.b:Int),(0,(g.length,(0,(g.length,((g.length:Int),((0:Int),())))))))))))=_:=key
 unfold G98
 simp only [z2c,z2d,key]
 cases (List.range g.length).find? fun i=>decide (g.getD i default∈rem)<;>rfl
theorem v9j (SE IX:List (D×D)) (WA C:List (List D)) (off:Nat) (g rem:List Cd) (ss:List Sg) {B:Cd→Cd→Bool} (hr:Rp ss g B) (hgl:g.length≤128) (hsub:∀ x∈rem,x∈g) {s:Sg} (hd:v5n g rem s) {j:Nat} {c:Cd} (hj:g[j]?=some c) (hf:w7b B rem c=false):
  ∃ (k:Nat) (d:Cd),z5q (v4x std) (SE,(WA,(C,(IX,(z23 ss,((s.a:Int),((s.b:Int),(off,(g.length,((j:Int),((g.length:Int),((0:Int),()))))))))))))=some (SE,(WA,(C,(IX,(z23 ss,((s.a:Int),((s.b:Int),(off,(g.length,((k:Int),()))))))))))∧g[k]?=some d∧d∈rem∧B d c=true:=by
 have hjl:j<g.length:=(eAd.1 hj).1
 have key:=z6z (b:=v4x std) g.length (fun i=>(SE,(WA,(C,(IX,(z23 ss,((s.a:Int),((s.b:Int),(off,(g.length,((j:Int),((g.length:Int),((i:Int),()))))))))))))) (fun i=>B (g.getD i default) c&&decide (g.getD i default∈rem))
  (fun i=>(SE,(WA,(C,(IX,(z23 ss,((s.a:Int),((s.b:Int),(off,(g.length,((i:Int),()))))))))))) (SE,(WA,(C,(IX,(z23 ss,((s.a:Int),((s.b:Int),(off,(g.length,((j:Int),()))))))))))
  (fun i hi=>by
   obtain ⟨d,hdi⟩:=z1v hi
   obtain ⟨hw,h0⟩:=stp i (by omega)
   have hlt:(i:Int)<(g.length:Int):=by omega
   have hj0:(0:Int)≤(j:Int):=by omega
   have hjg:(j:Int)<(g.length:Int):=by omega
   have hget:(ss.map eS)[j]?=some (eS (ss.getD j Sg.none)):=by
    rw [eAg,eCi,eAa (by rw [hr.1]; exact hjl)]; rfl
   have hbl:(ss.map eS).length=g.length:=by rw [eBt,hr.1]
   have t1:=v23 (ss.getD j Sg.none) i (by omega)
   have e1:=hr.2 j c hj i
   rw [hdi] at e1
   simp only at e1
   rw [e1] at t1
   have t2:=v23 s i (by omega)
   rw [hd i d hdi] at t2
   rw [z2g hdi]
   cases hb:B d c with
   |false=>
    rw [hb] at t1
    simp only [v4x,z2c,z2d,z23,z24,z36,z35,z38,Int.reduceLT,Int.reduceEq,Int.reduceLE,hlt,h0,hw,hj0,hjg,hget,hbl,t1,eDs,eAi,if_false]
   |true=>
    rw [hb] at t1
    by_cases hm:d∈rem
    ·simp only [hm,decide_true,eDp] at t2
     simp only [v4x,z2c,z2d,z23,z24,z36,z35,z38,Int.reduceLT,Int.reduceEq,Int.reduceLE,hlt,h0,hw,hj0,hjg,hget,hbl,t1,t2,hm,eDc,eAi,if_false,if_true]
    ·simp only [hm,decide_false,eCq] at t2
     simp only [v4x,z2c,z2d,z23,z24,z36,z35,z38,Int.reduceLT,Int.reduceEq,Int.reduceLE,hlt,h0,hw,hj0,hjg,hget,hbl,t1,t2,hm,Bool.and_false,eAi,if_false,if_true]) (by
  have hno:¬ (g.length:Int)<(g.length:Int):=by omega
  simp only [v4x,z2c,z2d,hno,if_false,z38,Int.reduceLT,Int.reduceEq,Int.reduceLE])
 have key:z5q (v4x std) (SE,(WA,(C,(IX,(z23 ss,((s.a:Int),((s.b:Int),(off,(g.length,((j:Int),((g.length:Int),((0:Int),()))))))))))))=_:=key
 cases hq:(List.range g.length).find? fun i=>B (g.getD i default) c&&decide (g.getD i default∈rem) with
 |none=>
  exfalso
  rw [eDj] at hq
  have:w7b B rem c=true:=by
   rw [z33]
   intro d hdr
   obtain ⟨i,hi,he⟩:=eDb.1 (hsub d hdr)
   have h:=hq i (eBo.2 hi)
   rw [z2g (by rw [eAa hi,he])] at h
   simpa [hdr] using h
  rw [hf] at this; cases this
 |some k=>
  rw [hq] at key
  have hk:=eBo.1 (eDe hq)
  have hP:=eDm hq
  obtain ⟨d,hdk⟩:=z1v hk
  rw [z2g hdk,eAb,decide_eq_true_eq] at hP
  exact ⟨k,d,key,hdk,hP.2,hP.1⟩
def Chn (B:Cd→Cd→Bool):List Cd→Prop
 |[]=>True
 |[_]=>True
 |x::y::l=>B x y=true∧Chn B (y::l)
theorem Chn.left {B:Cd→Cd→Bool}:∀ {p q:List Cd},Chn B (p++q)→Chn B p
 |[],_,_=>trivial
 |[_],_,_=>trivial
 |x::y::p,q,h=>⟨h.1,Chn.left (p:=y::p) (q:=q) h.2⟩
def wm (g w:List Cd):List (Int×Nat):=(w.map fun c=>(gi g c:Int)).zipIdx
theorem u3a {g:List Cd} (hi:Inj g) {c d:Cd} (hc:c∈g) (hd:d∈g) (h:gi g c=gi g d):c=d:=by
 have h1:=v2y hi hc
 rw [h,v2y hi hd] at h1
 exact (Option.some.inj h1).symm
theorem v7m {w:List Cd} {f:Cd→Int} {c:Cd} (hf:∀ d∈w,f d=f c→d=c):(w.map f).idxOf (f c)=w.idxOf c:=by
 induction w with
 |nil=>rfl
 |cons x w ih=>
  rw [List.map_cons,List.idxOf_cons,List.idxOf_cons]
  by_cases h:x=c
  ·subst h; simp
  ·have h1:(x==c)=false:=by simpa using h
   have h2:(f x==f c)=false:=by
    rw [beq_eq_false_iff_ne]
    exact fun e=>h (hf x (eBq ..) e)
   rw [h1,h2,ih fun d hd=>hf d (eCm _ hd)]
theorem v9z {g w:List Cd} (hi:Inj g) (hw:∀ c∈w,c∈g) {c:Cd} (hc:c∈g):z26 (wm g w) (gi g c:Int)=if c∈w then some (w.idxOf c) else none:=by
 unfold wm
 rw [v4h]
 have hf:∀ d∈w,((gi g d:Nat):Int)=((gi g c:Nat):Int)→d=c:=fun d hd h=>u3a hi (hw d hd) hc (by omega)
 by_cases h:c∈w
 ·rw [if_pos h,if_pos (eFc (f:=fun c=>((gi g c:Nat):Int)) h),v7m (f:=fun c=>((gi g c:Nat):Int)) hf,eAp]
 ·rw [if_neg h,if_neg]
  intro hm
  obtain ⟨d,hd,he⟩:=eBb.1 hm
  exact h (hf d hd he▸hd)
theorem u2n {g w:List Cd} {c:Cd} (h:z26 (wm g w) (gi g c:Int)=none):v42 (wm g w) (gi g c:Int) w.length=wm g (w++[c]):=by
 unfold v42; rw [h]
 unfold wm
 rw [List.map_append,List.zipIdx_append]
 simp
structure u5j (B:Cd→Cd→Bool) (g rem w:List Cd) (c:Cd):Prop where
 sub:∀ x∈w,x∈g
 nd:w.Nodup
 cur:c∈rem
 ch:Chn B (c::w.reverse)
theorem v3g {w g:List Cd} (hw:w.Nodup) (hg:g.Nodup) (hs:∀ x∈w,x∈g):w.length≤g.length:=by
 have:w.Perm (g.filter fun x=>decide (x∈w)):=z80 hw (hg.filter _) fun x=>by
  rw [eDa,decide_eq_true_eq]; exact ⟨fun h=>⟨hs x h,h⟩,fun h=>h.2⟩
 rw [this.length_eq]
 exact List.length_filter_le _ _
theorem v9k (IX:List (D×D)) (g rem:List Cd) (ss:List Sg) {B:Cd→Cd→Bool} (hr:Rp ss g B) (hgl:g.length≤128) (hn:(g.map (·.n)).Nodup) {s:Sg} (hL:u5k B g rem s) (hfree:∀ c∈rem,w7b B rem c=false) {c0:Cd} (hc0:c0∈rem):
  ∃ (w:List Cd) (c:Cd),z5q (v77 std) ([],(z0p fl g,(IX,(z23 ss,([],((s.a:Int),((s.b:Int),(0,(g.length,((gi g c0:Int),()))))))))))=
   some (z46 (wm g w),(z09 (w.map (·.n)),(z0p fl g,(IX,(z23 ss,(0,(g.length,((gi g c:Int),()))))))))∧c∈w∧u5j B g rem w c:=by
 have hi:=z21 hn
 have hgn:=z28 hn
 have key:=w4n (b:=v77 std) (fun (t:List Cd×Cd)=>(z46 (wm g t.1),(z0p fl g,(IX,(z23 ss,(z09 (t.1.map (·.n)),((s.a:Int),((s.b:Int),(0,(g.length,((gi g t.2:Int),()))))))))))) (fun t=>u5j B g rem t.1 t.2) (fun t=>g.length - t.1.length)
  (fun r=>∃ (w:List Cd) (c:Cd),r=(z46 (wm g w),(z09 (w.map (·.n)),(z0p fl g,(IX,(z23 ss,(0,(g.length,((gi g c:Int),()))))))))∧c∈w∧u5j B g rem w c)
  (fun t hI=>by
   obtain ⟨w,c⟩:=t
   simp only at hI
   have hcg:=hL.sub c hI.cur
   have hv:=v9z hi hI.sub hcg
   have hgi:=v5a hcg
   by_cases hm:c∈w
   ·right
    rw [if_pos hm] at hv
    have hh:(z26 (wm g w) (gi g c:Int)).isSome=true:=by rw [hv]; rfl
    exact ⟨_,by simp only [v77,z2c,z2d,z38,Int.reduceLT,Int.reduceEq,Int.reduceLE,v8p,v3y,hh],w,c,rfl,hm,hI⟩
   ·left
    rw [if_neg hm] at hv
    have hh:(z26 (wm g w) (gi g c:Int)).isSome=false:=by rw [hv]; rfl
    have ha:=u1z hv w.length
    rw [u2n hv] at ha
    have hrow:(g.map (eC fl))[gi g c]?=some (eC fl c):=by rw [eAg,v2y hi hcg]; rfl
    have c1:(0:Int)≤(gi g c:Int):=by omega
    have c2:(gi g c:Int)<(g.length:Int):=by omega
    have hwl:=v3g hI.nd hgn hI.sub
    have c3:w.length+1≤1000000:=by omega
    have c4:((w.map fun x=>x.n).map eI).length=w.length:=by simp
    have c5:((w.map fun x=>x.n).map eI).take w.length=(w.map fun x=>x.n).map eI:=eDg (by simp)
    have hws:((w.map fun x=>x.n).map eI)++[[D.int .i64 c.n]]=((w++[c]).map fun x=>x.n).map eI:=by simp [eI]
    obtain ⟨k,d,h5,hk,hdr,hdc⟩:=v9j (z46 (wm g (w++[c]))) IX (((w++[c]).map fun x=>x.n).map eI) (g.map (eC fl)) 0 g rem ss hr hgl hL.sub hL.done (v2y hi hcg) (hfree c hI.cur)
    have hkd:=v2v hn hk
    have hnd:(w++[c]).Nodup:=eDv.2 ⟨hI.nd,by simp,fun x hx y hy=>by rw [eBe.1 hy]; exact fun e=>hm (e▸hx)⟩
    have hsub':∀ x∈w++[c],x∈g:=fun x hx=>by
     rcases eBj.1 hx with h|h
     ·exact hI.sub x h
     ·rw [eBe.1 h]; exact hcg
    have hl2:=v3g hnd hgn hsub'
    rw [eBu,List.length_singleton] at hl2
    have c6:(w++[c]).length=w.length+1:=by simp
    refine ⟨(w++[c],d),?_,⟨hsub',hnd,hdr,?_⟩,by simp only [eBu,List.length_singleton]; omega⟩
    ·rw [←hkd] at h5
     simp only [v77,z2c,z2d,z0p,z09,z5r,y4u,z0p,z09,z38,Int.reduceLT,Int.reduceEq,Int.reduceLE,v8p,v3y,hh,c4,ha,hrow,c1,c2,c3,c5,eAp,eAk,eDd,eFd,List.take_zero,hws,h5,eDc,c6]
    ·rw [List.reverse_append,List.reverse_singleton]
     exact ⟨hdc,hI.ch⟩) ([],c0) ⟨fun x h=>(by cases h),List.nodup_nil,hc0,trivial⟩
 obtain ⟨r,h1,w,c,rfl,h2,h3⟩:=key
 exact ⟨w,c,h1,h2,h3⟩
end Go.Am
end
section
namespace Go.Am
open D12
variable {fl fl':List Int→Bool}
def u2g (a b cs:List Cd):Prop:=∃ c mid,cs=c::(mid++[c])∧mid≠[]∧mid.length≤120∧(∀ x∈cs,x∈w5r a b)∧Chn (z63 a b) cs
theorem u0f {B:Cd→Cd→Bool}:∀ {m:List Cd} {x y:Cd},Chn B (x::(m++[y]))→Tc B x y
 |[],_,_,h=> .one h.1
 |_::m,_,_,h=>(Tc.one h.1).trans (u0f (m:=m) h.2)
theorem v7w {a b:List Cd} (h:z31 a b=0):circ a b↔∃ z∈w5r a b,Tc (z63 a b) z z:=by
 obtain ⟨da,db,hc,hn,hl,hm,ht⟩:=z76 h
 unfold circ
 constructor<;>rintro ⟨z,hz,hq⟩<;>refine ⟨z,hz,?_⟩
 ·exact (v38 (z20 da).2.2.1 (z20 db).2.2.1).2 ((v2l hc).1 hq)
 ·exact (v2l hc).2 ((v38 (z20 da).2.2.1 (z20 db).2.2.1).1 hq)
theorem v62 {a b rem w:List Cd} {c:Cd} (hW:u5j (z63 a b) (w5r a b) rem w c) (hl:(w5r a b).length≤120) (hn:(w5r a b).Nodup) (hc:c∈w):
  ((w.drop (w.idxOf c))++[c]).reverse=c::((w.drop (w.idxOf c+1)).reverse++[c])∧u2g a b (c::((w.drop (w.idxOf c+1)).reverse++[c])):=by
 have hi:=eDh hc
 have hg:w[w.idxOf c]?=some c:=by rw [eAa hi,eDi]
 have hd:=v4e hg
 have hsp:w=w.take (w.idxOf c)++c::w.drop (w.idxOf c+1):=by rw [←hd,List.take_append_drop]
 refine ⟨by rw [hd]; simp,c,(w.drop (w.idxOf c+1)).reverse,rfl,?_,?_,?_,?_⟩
 ·intro e
  have hch:=hW.ch
  rw [hsp,List.reverse_append,List.reverse_cons,e] at hch
  have:z63 a b c c=true:=hch.1
  rcases eAq _ _▸(show (ltc a c c||ltc b c c)=true from this) with h|h
  ·exact v30 (z85 h).1 rfl
  ·exact v30 (z85 h).1 rfl
 ·have:=v3g hW.nd hn hW.sub
  rw [List.length_reverse,eCx]; omega
 ·intro x hx
  apply hW.sub
  rcases eAz.1 hx with rfl|hx
  ·exact hc
  ·rcases eBj.1 hx with h|h
   ·exact List.mem_of_mem_drop (List.mem_reverse.1 h)
   ·rw [eBe.1 h]; exact hc
 ·have hch:=hW.ch
  rw [hsp,List.reverse_append,List.reverse_cons] at hch
  have:Chn (z63 a b) ((c::((w.drop (w.idxOf c+1)).reverse++[c]))++(w.take (w.idxOf c)).reverse):=by
   have e1:w.idxOf c=w.idxOf c:=rfl
   simpa using hch
  exact this.left
theorem u0p (a b:List Cd) (ha:Few a) (hb:Few b):
  (z31 a b≠0∧G48 std (z0p fl a,(z0p fl b,()))=some ([],(0,(0,(z31 a b,())))))∨
  (z31 a b=0∧¬ circ a b∧G48 std (z0p fl a,(z0p fl b,()))=some ([],(0,(0,(5,())))))∨
  (z31 a b=0∧circ a b∧∃ cs:List Cd,G48 std (z0p fl a,(z0p fl b,()))=some (z09 (cs.map (·.n)),(0,(cs.length,(0,()))))∧u2g a b cs):=by
 have h90:=v8g (fl:=fl) (fl':=fl) a b ha hb
 by_cases h:z31 a b=0
 ·right
  obtain ⟨da,db,hc,hn,hl,hm,ht⟩:=z76 h
  obtain ⟨ss,g66,hr⟩:=v4q (fl:=fl) h
  have hB:∀ x y,z63 a b x y=true→x∈w5r a b:=fun x y hxy=>(v2w hc (z75 hxy)).1
  obtain ⟨rem,s,h1,hL,hE⟩:=v9m (z46 (ixM (w5r a b))) 0 (w5r a b).length (z0p fl (w5r a b)) (w5r a b) ss hB hr (by omega) hn
  have h98:=u4m (fl:=fl) (z23 ss) (w5r a b) rem (by omega) hn s hL.done
  cases hq:(List.range (w5r a b).length).find? fun i=>decide ((w5r a b).getD i default∈rem) with
  |none=>
   left
   rw [hq] at h98
   refine ⟨h,fun hci=>?_,?_⟩
   ·obtain ⟨z,hz,htc⟩:=(v7w h).1 hci
    have hzr:=hL.circ z hz htc
    obtain ⟨i,hi,he⟩:=eDb.1 hz
    rw [eDj] at hq
    have:=hq i (eBo.2 hi)
    rw [z2g (by rw [eAa hi,he])] at this
    simp [hzr] at this
   ·unfold G48
    simp only [z2c,z2d,z38,Int.reduceLT,Int.reduceEq,Int.reduceLE,h90,h,g66,h1,h98]
  |some k=>
   right
   rw [hq] at h98
   have hk:=eBo.1 (eDe hq)
   have hP:=eDm hq
   obtain ⟨c0,hc0⟩:=z1v hk
   rw [z2g hc0,decide_eq_true_eq] at hP
   have hgk:=v2v hn hc0
   obtain ⟨w,c,h3,hcw,hW⟩:=v9k (fl:=fl) (z46 (ixM (w5r a b))) (w5r a b) rem ss hr (by omega) hn hL hE hP
   rw [hgk] at h3
   obtain ⟨hrev,hC⟩:=v62 hW hl (z28 hn) hcw
   refine ⟨h,(v7w h).2 ⟨c,hL.sub c hW.cur,?_⟩,_,?_,hC⟩
   ·obtain ⟨c',mid,e,_,_,_,hch⟩:=hC
    have e1:c=c'∧(w.drop (w.idxOf c+1)).reverse++[c]=mid++[c']:=by simpa using e
    obtain ⟨rfl,e2⟩:=e1
    exact u0f hch
   ·have hcg:=hL.sub c hW.cur
    have hv:=v9z (z21 hn) hW.sub hcg
    rw [if_pos hcw] at hv
    have hh:(z26 (wm (w5r a b) w) (gi (w5r a b) c:Int)).isSome=true:=by rw [hv]; rfl
    have hge:=v9w hv
    have hgl:=v5a hcg
    have hil:=eDh hcw
    have hrow:((w5r a b).map (eC fl))[gi (w5r a b) c]?=some (eC fl c):=by rw [eAg,v2y (z21 hn) hcg]; rfl
    have hwl:=v3g hW.nd (z28 hn) hW.sub
    have c0':¬ ((k:Int)<0):=by omega
    have c1:(0:Int)≤(w.idxOf c:Int):=by omega
    have c2:(w.idxOf c:Int)≤(w.length:Int):=by omega
    have c3:(0:Int)≤(gi (w5r a b) c:Int):=by omega
    have c4:(gi (w5r a b) c:Int)<((w5r a b).length:Int):=by omega
    have c5:¬ (w.length - w.idxOf c+1≤w.length - w.idxOf c):=by omega
    have c10:w.idxOf c+(w.length - w.idxOf c)≤w.length:=by omega
    have c6:w.length - w.idxOf c+1≤1000000:=by omega
    have c7:((w.map fun x=>x.n).map eI).length=w.length:=by simp
    have c8:(((w.map fun x=>x.n).map eI).drop (w.idxOf c)).take (w.length - w.idxOf c)=(((w.drop (w.idxOf c))).map fun x=>x.n).map eI:=by
     rw [←List.map_drop, ←List.map_drop]
     exact eDg (by simp)
    have c9:((((w.drop (w.idxOf c))).map fun x=>x.n).map eI)++[[D.int .i64 c.n]]=(((w.drop (w.idxOf c))++[c]).map fun x=>x.n).map eI:=by simp [eI]
    have t0:List.take 1 (List.drop 0 [[D.int .i64 c.n]])=[[D.int .i64 c.n]]:=rfl
    have c11:(((((w.drop (w.idxOf c))++[c]).map fun x=>x.n).map eI)).length=w.length - w.idxOf c+1:=by simp
    have h100:=v8n ((((w.drop (w.idxOf c))++[c]).map fun x=>x.n)) (by simp; omega)
    rw [←List.map_reverse,hrev] at h100
    have hlen:(c::((w.drop (w.idxOf c+1)).reverse++[c])).length=w.length - w.idxOf c+1:=by simp; omega
    rw [hlen]
    simp only [z0p,z09] at h90 g66 h1 h98 h3 h100
    unfold G48
    simp only [z2c,z2d,z0p,z09,z5r,y4u,z0p,z09,z38,Int.reduceLT,Int.reduceEq,Int.reduceLE,h90,h,g66,h1,h98,h3,c0',v8p,v3y,hh,hge,hrow,c1,c2,c3,c4,c5,c6,c7,c8,c9,c10,h100,eAp,eAk,eDt,eDc,eFd,List.take_zero,t0,c11]
 ·left
  refine ⟨h,?_⟩
  unfold G48
  simp only [z2c,z2d,z38,Int.reduceLT,Int.reduceEq,Int.reduceLE,h90,h]
end Go.Am
end
section
namespace Go.Am
open D12
variable {fl fl':List Int→Bool}
def v3b (l:List Cd) (x y:Int):Bool:=match atO l x,atO l y with
 |some i,some k=>decide (i<k)&&tch (l.getD i default) (l.getD k default)
 |_,_=>false
theorem v37 {l:List Cd} {x:Int} {i:Nat} (h:atO l x=some i):i<l.length:=eBo.1 (eDe h)
theorem u2b (l:List Cd) (x:Int) (hl:l.length≤1000000):u4l std (x,(z0p fl l,()))=some (x,(atI l x,())):=by
 have key:=z6z (b:=v34 std) l.length (fun i=>(x,(z0p fl l,((l.length:Int),((i:Int),()))))) (fun i=>decide ((l.getD i default).n=x)) (fun i=> .inl (x,((i:Int),()))) (.inr (x,())) (fun i hi=>by
  obtain ⟨m,hm⟩:=z1v hi
  obtain ⟨hw,h0⟩:=stp i (by omega)
  have hlt:(i:Int)<l.length:=by omega
  have hrow:=v26 (fl:=fl) hm
  rw [z2g hm]
  by_cases e:m.n=x
  ·simp only [v34,u5f,z2c,z2d,z0p,z09,z5r,y4u,z0p,z38,Int.reduceLT,Int.reduceEq,Int.reduceLE,hrow,hlt,h0,hw,e]
  ·simp only [v34,u5f,z2c,z2d,z0p,z09,z5r,y4u,z0p,z38,Int.reduceLT,Int.reduceEq,Int.reduceLE,hrow,hlt,h0,hw,e]) (by
  have hn:¬ (l.length:Int)<l.length:=by omega
  simp only [v34,z2c,z2d,hn])
 have key:z5q (v34 std) (x,(z0p fl l,((l.length:Int),((0:Int),()))))=_:=key
 have hle:(z0p fl l).length=l.length:=z2h l
 unfold u4l atI atO
 simp only [z2c,z2d,hle,key]
 cases (List.range l.length).find? fun i=>decide ((l.getD i default).n=x)<;>rfl
theorem v8f (l:List Cd) (x:Int) (hl:l.length≤1000000):v40 std (x,(z0p fl l,()))=some (x,(atI l x,())):=by
 have key:=z6z (b:=v2s std) l.length (fun i=>(x,(z0p fl l,((l.length:Int),((i:Int),()))))) (fun i=>decide ((l.getD i default).n=x)) (fun i=> .inl (x,((i:Int),()))) (.inr (x,())) (fun i hi=>by
  obtain ⟨m,hm⟩:=z1v hi
  obtain ⟨hw,h0⟩:=stp i (by omega)
  have hlt:(i:Int)<l.length:=by omega
  have hrow:=v26 (fl:=fl) hm
  rw [z2g hm]
  by_cases e:m.n=x
  ·simp only [v2s,u5e,z2c,z2d,z0p,z09,z5r,y4u,z0p,z38,Int.reduceLT,Int.reduceEq,Int.reduceLE,hrow,hlt,h0,hw,e]
  ·simp only [v2s,u5e,z2c,z2d,z0p,z09,z5r,y4u,z0p,z38,Int.reduceLT,Int.reduceEq,Int.reduceLE,hrow,hlt,h0,hw,e]) (by
  have hn:¬ (l.length:Int)<l.length:=by omega
  simp only [v2s,z2c,z2d,hn])
 have key:z5q (v2s std) (x,(z0p fl l,((l.length:Int),((0:Int),()))))=_:=key
 have hle:(z0p fl l).length=l.length:=z2h l
 unfold v40 atI atO
 simp only [z2c,z2d,hle,key]
 cases (List.range l.length).find? fun i=>decide ((l.getD i default).n=x)<;>rfl
theorem v8m (l:List Cd) (x y:Int) (hl:l.length≤1000000) (hf:Few l):u2m std (z0p fl l,(x,(y,())))=some (v3b l x y,()):=by
 have g1:=u2b (fl:=fl) l x hl
 have g2:=v8f (fl:=fl) l y hl
 unfold atI at g1 g2
 unfold u2m v3b
 cases h1:atO l x with
 |none=>
  rw [h1] at g1
  have n1:¬ (0:Int)≤ -1:=by omega
  simp only [z2c,z2d,z38,Int.reduceLT,Int.reduceEq,Int.reduceLE,g1,g2,n1]
 |some i=>
  rw [h1] at g1
  have i0:(0:Int)≤(i:Int):=by omega
  have hi:=v37 h1
  obtain ⟨c,hc⟩:=z1v hi
  cases h2:atO l y with
  |none=>
   rw [h2] at g2
   have n1:¬ (i:Int)< -1:=by omega
   simp only [z2c,z2d,z38,Int.reduceLT,Int.reduceEq,Int.reduceLE,g1,g2,i0,n1]
  |some k=>
   rw [h2] at g2
   have k0:(0:Int)≤(k:Int):=by omega
   have hk:=v37 h2
   obtain ⟨d,hd⟩:=z1v hk
   have r1:=v26 (fl:=fl) hc
   have r2:=v26 (fl:=fl) hd
   have h92:=u0i c d (hf c (eAu hc)) (hf d (eAu hd))
   simp only [z0p,z09] at g1 g2 h92
   simp only [z2g hc,z2g hd]
   by_cases hik:i<k
   ·have hik':(i:Int)<(k:Int):=by omega
    simp only [z2c,z2d,z0p,z09,z5r,y4u,z0p,z09,z38,Int.reduceLT,Int.reduceEq,Int.reduceLE,g1,g2,i0,k0,hik,hik',r1,r2,hc,hd,h92,Bool.true_and]
   ·have hik':¬ (i:Int)<(k:Int):=by omega
    simp only [z2c,z2d,z0p,z09,z5r,y4u,z0p,z09,z38,Int.reduceLT,Int.reduceEq,Int.reduceLE,g1,g2,i0,k0,hik,hik',eDs]
theorem v8l (l:List Cd) (x y:Int) (hl:l.length≤1000000) (hf:Few l):u2l std (z0p fl l,(x,(y,())))=some (v3b l x y,()):=by
 have g1:=v29 (fl:=fl) l x hl
 have g2:=v29 (fl:=fl) l y hl
 unfold atI at g1 g2
 unfold u2l v3b
 cases h1:atO l x with
 |none=>
  rw [h1] at g1
  have n1:¬ (0:Int)≤ -1:=by omega
  simp only [z2c,z2d,z38,Int.reduceLT,Int.reduceEq,Int.reduceLE,g1,g2,n1]
 |some i=>
  rw [h1] at g1
  have i0:(0:Int)≤(i:Int):=by omega
  have hi:=v37 h1
  obtain ⟨c,hc⟩:=z1v hi
  cases h2:atO l y with
  |none=>
   rw [h2] at g2
   have n1:¬ (0:Int)≤ -1:=by omega
   simp only [z2c,z2d,z38,Int.reduceLT,Int.reduceEq,Int.reduceLE,g1,g2,i0,n1]
  |some k=>
   rw [h2] at g2
   have k0:(0:Int)≤(k:Int):=by omega
   have hk:=v37 h2
   obtain ⟨d,hd⟩:=z1v hk
   have r1:=v26 (fl:=fl) hc
   have r2:=v26 (fl:=fl) hd
   have h44:=v8j c d (hf c (eAu hc)) (hf d (eAu hd))
   simp only [z0p,z09] at g1 g2 h44
   simp only [z2g hc,z2g hd]
   by_cases hik:i<k
   ·have hik':(i:Int)<(k:Int):=by omega
    simp only [z2c,z2d,z0p,z09,z5r,y4u,z0p,z09,z38,Int.reduceLT,Int.reduceEq,Int.reduceLE,g1,g2,i0,k0,hik,hik',r1,r2,hc,hd,h44,Bool.true_and]
   ·have hik':¬ (i:Int)<(k:Int):=by omega
    simp only [z2c,z2d,z0p,z09,z5r,y4u,z0p,z09,z38,Int.reduceLT,Int.reduceEq,Int.reduceLE,g1,g2,i0,k0,hik,hik',eDs]
def v4l (a b:List Cd) (x y:Int):Bool:=v3b a x y||v3b b x y
def u1x (a b:List Cd) (c:List Int):Bool:=(List.range (c.length - 1)).all fun i=>v4l a b (c.getD i 0) (c.getD (i+1) 0)
def u0g (a b:List Cd) (c:List Int):Int:=
 if z31 a b≠0 then z31 a b else if c.length<3∨4096<c.length then 6 else if u1x a b c=false then 14 else if c.getD (c.length - 1) 0=c.getD 0 0 then 0 else 14
theorem v8d (a b:List Cd) (c:List Int):((List.range (c.length - 1)).any fun i=>!v4l a b (c.getD i 0) (c.getD (i+1) 0))=!u1x a b c:=by
 unfold u1x
 rw [eCu]
 simp
theorem u4n (a b:List Cd) (ha:Few a) (hb:Few b):G93 std (z0p fl a,(z0p fl' b,()))=some (z31 a b,()):=by
 have h82:=u4p (fl:=fl) (fl':=fl') a b ha hb
 unfold G93
 by_cases h:v2m a b=0
 ·obtain ⟨da,db⟩:=v24.1 h
  obtain ⟨a1,a2,a3,a4,a5⟩:=z20 da
  obtain ⟨b1,b2,b3,b4,b5⟩:=z20 db
  have key:=z87 (b:=v5g std) a.length (fun i=>(z0p fl a,(z0p fl' b,((i:Int),())))) (fun i=>match atO b (a.getD i default).n with|some k=>!decide (a.getD i default=b.getD k default)|none=>false) (.inl ((15:Int),())) (.inr ()) (fun i hi=>by
   obtain ⟨c,hc⟩:=z1v hi
   obtain ⟨hw,h0⟩:=stp i (by omega)
   have hlt:(i:Int)<a.length:=by omega
   have hrow:=v26 (fl:=fl) hc
   have hle:(a.map (eC fl)).length=a.length:=by simp
   have g43:=v29 (fl:=fl') b c.n (by omega)
   unfold atI at g43
   rw [z2g hc]
   cases hq:atO b c.n with
   |none=>
    rw [hq] at g43
    have n1:¬ (0:Int)≤ -1:=by omega
    simp only [z0p] at g43
    simp only [v5g,z2c,z2d,z0p,z09,z5r,y4u,z0p,z09,z38,Int.reduceLT,Int.reduceEq,Int.reduceLE,hrow,hle,hlt,h0,hw,g43,n1,eAi,if_false]
   |some k=>
    rw [hq] at g43
    have k0:(0:Int)≤(k:Int):=by omega
    obtain ⟨d,hd⟩:=z1v (v37 hq)
    have r2:=v26 (fl:=fl') hd
    have h77:=u0l c d (ha c (eAu hc))
    simp only [z0p,z09] at g43 h77
    simp only [z2g hd]
    by_cases e:c=d
    ·subst e
     rw [decide_eq_true rfl] at h77
     simp only [v5g,z2c,z2d,z0p,z09,z5r,y4u,z0p,z09,z38,Int.reduceLT,Int.reduceEq,Int.reduceLE,hrow,hle,hlt,h0,hw,g43,k0,r2,hd,h77,eAi,if_false]
    ·rw [decide_eq_false e] at h77
     simp only [v5g,z2c,z2d,z0p,z09,z5r,y4u,z0p,z09,z38,Int.reduceLT,Int.reduceEq,Int.reduceLE,hrow,hle,hlt,h0,hw,g43,k0,r2,hd,h77,e,eAi,if_false]) (by
   have hno:¬ (a.length:Int)<a.length:=by omega
   have hle:(z0p fl a).length=a.length:=z2h a
   simp only [v5g,z2c,z2d,hle,hno,if_false])
  have key:z5q (v5g std) (z0p fl a,(z0p fl' b,((0:Int),())))=_:=key
  have hP:((List.range a.length).any fun i=>match atO b (a.getD i default).n with|some k=>!decide (a.getD i default=b.getD k default)|none=>false)=true↔∃ x∈a,∃ y∈b,x.n=y.n∧x≠y:=by
   rw [x2s a default fun c=>match atO b c.n with|some k=>!decide (c=b.getD k default)|none=>false,eCz]
   constructor
   ·rintro ⟨x,hx,hq⟩
    cases hf:atO b x.n with
    |none=>rw [hf] at hq; cases hq
    |some k=>
     rw [hf] at hq
     obtain ⟨d,hd⟩:=z1v (v37 hf)
     have h1:=eDm hf
     simp only [z2g hd] at hq h1
     exact ⟨x,hx,d,eAu hd,by simpa using (of_decide_eq_true h1).symm,by simpa using hq⟩
   ·rintro ⟨x,hx,y,hy,he,hne⟩
    refine ⟨x,hx,?_⟩
    obtain ⟨k,hk,hky⟩:=eDb.1 hy
    have hk':b[k]?=some y:=by rw [eAa hk,hky]
    have h1:=v56 b2 hk'
    rw [←he] at h1
    unfold atI at h1
    cases hf:atO b x.n with
    |none=>rw [hf] at h1; simp only at h1; omega
    |some j=>
     rw [hf] at h1
     simp only at h1
     have:j=k:=by omega
     subst this
     simp only [z2g hk']
     simpa using hne
  unfold z31
  by_cases hx:∃ x∈a,∃ y∈b,x.n=y.n∧x≠y
  ·rw [hP.2 hx] at key
   simp only [if_true] at key
   simp only [z2c,z2d,z38,Int.reduceLT,Int.reduceEq,Int.reduceLE,h82,h,key,da,db,hx,ne_eq]
  ·have hf:((List.range a.length).any fun i=>match atO b (a.getD i default).n with|some k=>!decide (a.getD i default=b.getD k default)|none=>false)=false:=by
    rw [Bool.eq_false_iff]; exact fun e=>hx (hP.1 e)
   rw [hf] at key
   simp only [eAi,if_false] at key
   simp only [z2c,z2d,z38,Int.reduceLT,Int.reduceEq,Int.reduceLE,h82,h,key,da,db,hx,ne_eq]
 ·have e:z31 a b=v2m a b:=by
   unfold z31 v2m
   unfold v2m at h
   split
   ·rfl
   ·rename_i h1
    rw [if_neg h1] at h
    rw [if_pos h]
  rw [e]
  simp only [z2c,z2d,z38,Int.reduceLT,Int.reduceEq,Int.reduceLE,h82,h]
theorem u0o (a b:List Cd) (c:List Int) (ha:Few a) (hb:Few b) (hla:a.length≤1000000) (hlb:b.length≤1000000) (hlc:c.length≤1000000):G50 std (z0p fl a,(z0p fl' b,(z09 c,())))=some (u0g a b c,()):=by
 have h90:=v8g (fl:=fl) (fl':=fl') a b ha hb
 have hle:(z09 c).length=c.length:=z00 c
 unfold G50 u0g
 by_cases h:z31 a b=0
 ·by_cases h3:c.length<3
  ·have h3':(c.length:Int)<3:=by omega
   simp only [z2c,z2d,z38,Int.reduceLT,Int.reduceEq,Int.reduceLE,h90,h,hle,h3,h3',ne_eq,true_or]
  ·have h3':¬ (c.length:Int)<3:=by omega
   by_cases h4:4096<c.length
   ·have h4':(4096:Int)<(c.length:Int):=by omega
    simp only [z2c,z2d,z38,Int.reduceLT,Int.reduceEq,Int.reduceLE,h90,h,hle,h3,h3',h4,h4',ne_eq,or_true]
   ·have h4':¬ (4096:Int)<(c.length:Int):=by omega
    have h1':(1:Int)≤(c.length:Int):=by omega
    have hdl:(c.map eI).drop 1=(c.drop 1).map eI:=by simp
    have htk:((c.drop 1).map eI).take (c.length - 1)=(c.drop 1).map eI:=eDg (by simp)
    have hdn:((c.drop 1).map eI).length=c.length - 1:=by simp
    have key:=z87 (b:=v5j std) (c.length - 1) (fun i=>(z0p fl a,(z0p fl' b,(c.map eI,(c.getD i 0,((c.drop 1).map eI,(((c.length - 1:Nat):Int),((i:Int),())))))))) (fun i=>!v4l a b (c.getD i 0) (c.getD (i+1) 0)) (.inl ((14:Int),())) (.inr (c.map eI,(c.getD (c.length - 1) 0,()))) (fun i hi=>by
     obtain ⟨x,hx⟩:=z1v (show i<c.length by omega)
     obtain ⟨y,hy⟩:=z1v (show i+1<c.length by omega)
     obtain ⟨hw,h0⟩:=stp i (by omega)
     have hlt:(i:Int)<((c.length - 1:Nat):Int):=by omega
     have hyd:(c.drop 1)[i]?=some y:=by rw [eBp,Nat.add_comm]; exact hy
     have hyr:((c.drop 1).map eI)[i]?=some (eI y):=by rw [eAg,hyd]; rfl
     have g1:=v8m (fl:=fl) a x y hla ha
     have g2:=v8m (fl:=fl') b x y hlb hb
     simp only [z2g hx,z2g hy]
     unfold v4l
     cases q1:v3b a x y with
     |true=>
      rw [q1] at g1
      simp only [v5j,z2c,z2d,y8i,w5e,z38,Int.reduceLT,Int.reduceEq,Int.reduceLE,hyd,hyr,hlt,h0,hw,g1,Bool.true_or,eAi,if_false]
     |false=>
      rw [q1] at g1
      cases q2:v3b b x y with
      |true=>
       rw [q2] at g2
       simp only [v5j,z2c,z2d,y8i,w5e,z38,Int.reduceLT,Int.reduceEq,Int.reduceLE,hyd,hyr,hlt,h0,hw,g1,g2,Bool.or_true,eAi,if_false]
      |false=>
       rw [q2] at g2
       simp only [v5j,z2c,z2d,y8i,w5e,z38,Int.reduceLT,Int.reduceEq,Int.reduceLE,hyd,hyr,hlt,h0,hw,g1,g2,Bool.or_false,eAi,if_false]) (by
     have hno:¬ ((c.length - 1:Nat):Int)<((c.length - 1:Nat):Int):=by omega
     simp only [v5j,z2c,z2d,hno,if_false])
    rw [v8d] at key
    obtain ⟨x,hx⟩:=z1v (show 0<c.length by omega)
    have hxr:=v8q hx
    have hx0:c.getD 0 0=x:=z2g hx
    have key:z5q (v5j std) (z0p fl a,(z0p fl' b,(c.map eI,(c.getD 0 0,((c.drop 1).map eI,(((c.length - 1:Nat):Int),((0:Int),())))))))=_:=key
    rw [hx0] at key
    have hle':(c.map eI).length=c.length:=by simp
    cases hadj:u1x a b c with
    |false=>
     rw [hadj] at key
     simp only [eCq,if_true] at key
     simp only [z2c,z2d,y8i,w5e,z09,z38,Int.reduceLT,Int.reduceEq,Int.reduceLE,h90,h,hle',h3,h3',h4,h4',h1',hx,hxr,hdl,htk,hdn,key,ne_eq,or_self,eDt,eDc,eDr,Int.toNat_one]
    |true=>
     rw [hadj] at key
     simp only [eDp,eAi,if_false] at key
     rw [hx0]
     by_cases e:c.getD (c.length - 1) 0=x
     ·simp only [z2c,z2d,y8i,w5e,z09,z38,Int.reduceLT,Int.reduceEq,Int.reduceLE,h90,h,hle',h3,h3',h4,h4',h1',hx,hxr,hdl,htk,hdn,key,ne_eq,or_self,eDt,eDc,eDr,Int.toNat_one,e,Bool.true_eq_false,if_false]
     ·simp only [z2c,z2d,y8i,w5e,z09,z38,Int.reduceLT,Int.reduceEq,Int.reduceLE,h90,h,hle',h3,h3',h4,h4',h1',hx,hxr,hdl,htk,hdn,key,ne_eq,or_self,eDt,eDc,eDr,Int.toNat_one,e,Bool.true_eq_false,if_false]
 ·simp only [z2c,z2d,z38,Int.reduceLT,Int.reduceEq,Int.reduceLE,h90,h,ne_eq]
theorem u4w (a b:List Cd) (c:List Int) (ha:Few a) (hb:Few b) (hla:a.length≤1000000) (hlb:b.length≤1000000) (hlc:c.length≤1000000):G51 std (z0p fl a,(z0p fl' b,(z09 c,())))=some (u0g a b c,()):=by
 have h93:=u4n (fl:=fl) (fl':=fl') a b ha hb
 have hle:(z09 c).length=c.length:=z00 c
 unfold G51 u0g
 by_cases h:z31 a b=0
 ·by_cases h3:c.length<3
  ·have h3':(c.length:Int)<3:=by omega
   simp only [z2c,z2d,z38,Int.reduceLT,Int.reduceEq,Int.reduceLE,h93,h,hle,h3,h3',ne_eq,true_or]
  ·have h3':¬ (c.length:Int)<3:=by omega
   by_cases h4:4096<c.length
   ·have h4':(4096:Int)<(c.length:Int):=by omega
    simp only [z2c,z2d,z38,Int.reduceLT,Int.reduceEq,Int.reduceLE,h93,h,hle,h3,h3',h4,h4',ne_eq,or_true]
   ·have h4':¬ (4096:Int)<(c.length:Int):=by omega
    have w1:∀ i:Nat,i<1000000→std.ar .sub .i64 ((i+1:Nat):Int) 1=(i:Int):=fun i hi=>by
     rw [z8z,w2o _ (by omega) (by omega)]; omega
    have key:=z87 (b:=v5i std) (c.length - 1) (fun i=>(z0p fl a,(z0p fl' b,(c.map eI,(((i+1:Nat):Int),()))))) (fun i=>!v4l a b (c.getD i 0) (c.getD (i+1) 0)) (.inl ((14:Int),())) (.inr (c.map eI,())) (fun i hi=>by
     obtain ⟨x,hx⟩:=z1v (show i<c.length by omega)
     obtain ⟨y,hy⟩:=z1v (show i+1<c.length by omega)
     obtain ⟨hw,h0⟩:=stp (i+1) (by omega)
     have w2:=w1 i (by omega)
     have hi0:(0:Int)≤(i:Int):=by omega
     have hlt:((i+1:Nat):Int)<(c.length:Int):=by omega
     have hxr:=v8q hx
     have hyr:=v8q hy
     have hle':(c.map eI).length=c.length:=by simp
     have g1:=v8l (fl:=fl) a x y hla ha
     have g2:=v8l (fl:=fl') b x y hlb hb
     simp only [z2g hx,z2g hy]
     unfold v4l
     cases q1:v3b a x y with
     |true=>
      rw [q1] at g1
      simp only [v5i,z2c,z2d,y8i,w5e,z38,Int.reduceLT,Int.reduceEq,Int.reduceLE,hx,hy,hxr,hyr,hle',hlt,h0,hi0,hw,w2,g1,Bool.true_or,eAi,if_false]
     |false=>
      rw [q1] at g1
      cases q2:v3b b x y with
      |true=>
       rw [q2] at g2
       simp only [v5i,z2c,z2d,y8i,w5e,z38,Int.reduceLT,Int.reduceEq,Int.reduceLE,hx,hy,hxr,hyr,hle',hlt,h0,hi0,hw,w2,g1,g2,Bool.or_true,eAi,if_false]
      |false=>
       rw [q2] at g2
       simp only [v5i,z2c,z2d,y8i,w5e,z38,Int.reduceLT,Int.reduceEq,Int.reduceLE,hx,hy,hxr,hyr,hle',hlt,h0,hi0,hw,w2,g1,g2,Bool.or_false,eAi,if_false]) (by
     have e1:c.length - 1+1=c.length:=by omega
     have hno:¬ (c.length:Int)<(c.length:Int):=by omega
     have hle':(c.map eI).length=c.length:=by simp
     rw [e1]
     simp only [v5i,z2c,z2d,hno,hle',if_false])
    rw [v8d] at key
    obtain ⟨x,hx⟩:=z1v (show 0<c.length by omega)
    obtain ⟨z,hz⟩:=z1v (show c.length - 1<c.length by omega)
    have hxr:=v8q hx
    have hzr:=v8q hz
    have w3:std.ar .sub .i64 (c.length:Int) 1=((c.length - 1:Nat):Int):=by
     rw [z8z,w2o _ (by omega) (by omega)]; omega
    have z0:(0:Int)≤((c.length - 1:Nat):Int):=by omega
    have key:z5q (v5i std) (z0p fl a,(z0p fl' b,(c.map eI,((1:Int),()))))=_:=key
    have hle':(c.map eI).length=c.length:=by simp
    cases hadj:u1x a b c with
    |false=>
     rw [hadj] at key
     simp only [eCq,if_true] at key
     simp only [z2c,z2d,y8i,w5e,z09,z38,Int.reduceLT,Int.reduceEq,Int.reduceLE,h93,h,hle',h3,h3',h4,h4',key,ne_eq,or_self]
    |true=>
     rw [hadj] at key
     simp only [eDp,eAi,if_false] at key
     simp only [z2g hx,z2g hz]
     by_cases e:x=z
     ·subst e
      simp only [z2c,z2d,y8i,w5e,z09,z38,Int.reduceLT,Int.reduceEq,Int.reduceLE,h93,h,hle',h3,h3',h4,h4',hx,hz,hxr,hzr,w3,z0,key,ne_eq,or_self,eDr,Bool.true_eq_false,if_false]
     ·have e':¬ z=x:=fun h=>e h.symm
      simp only [z2c,z2d,y8i,w5e,z09,z38,Int.reduceLT,Int.reduceEq,Int.reduceLE,h93,h,hle',h3,h3',h4,h4',hx,hz,hxr,hzr,w3,z0,key,ne_eq,or_self,eDr,e,e',Bool.true_eq_false,if_false]
 ·simp only [z2c,z2d,z38,Int.reduceLT,Int.reduceEq,Int.reduceLE,h93,h,ne_eq]
end Go.Am
end
section
namespace Go.Am.D12
def v3u (P:Nat→Bool) (l:List Cd):List Cd:=(l.zipIdx.filter fun x=>P x.2).map (·.1)
theorem v39 (P:Nat→Bool) (l:List Cd):(v3u P l).Sublist l:=by
 have h:=(eDq (l:=l.zipIdx) (p:=fun x=>P x.2)).map (·.1)
 have e:l.zipIdx.map (·.1)=l:=by simp
 rw [e] at h
 exact h
theorem v66 {P:Nat→Bool} {l:List Cd} {i:Nat} {c:Cd} (h:l[i]?=some c) (hP:P i=true):c∈v3u P l:=by
 refine eBb.2 ⟨(c,i),eDa.2 ⟨?_,hP⟩,rfl⟩
 rw [List.mem_zipIdx_iff_getElem?]
 exact h
theorem v5o {P:Nat→Bool} {l:List Cd} {i:Nat} {c:Cd} (h:l[i]?=some c):v3u P (l.take (i+1))=v3u P (l.take i)++(if P i=true then [c] else []):=by
 have hi:i<l.length:=(eAd.1 h).1
 unfold v3u
 rw [eDw,h]
 simp only [Option.toList_some]
 rw [List.zipIdx_append,List.filter_append,List.map_append]
 congr 1
 simp only [eBv,List.zipIdx_singleton,List.filter_cons,List.filter_nil,Nat.min_eq_left (Nat.le_of_lt hi),eAp]
 split<;>rfl
theorem v6m {a b:List Cd} (ha:a.Nodup) (h:Eqv a b) (P:Cd→Bool):Eqv (a.filter P) (b.filter P):=by
 have hb:b.Nodup:=h.1.nodup_iff.1 ha
 refine ⟨h.1.filter P,fun x hx y hy=>?_⟩
 have hx':=(eDa.1 hx).1
 have hy':=(eDa.1 hy).1
 rw [v5s eDq ha hx hy,h.2 x hx' y hy',v5s eDq hb ((h.1.filter P).mem_iff.1 hx) ((h.1.filter P).mem_iff.1 hy)]
theorem v5c {l a:List Cd} (hn:l.Nodup) (hs:a.Sublist l):l.filter (fun c=>decide (c∈a))=a:=by
 induction hs with
 |slnil=>rfl
 |@cons a l x hs ih=>
  have hn':=eDl.1 hn
  have hx:x∉a:=fun h=>hn'.1 (hs.subset h)
  rw [List.filter_cons_of_neg (by simpa using hx)]
  exact ih hn'.2
 |@cons_cons a l x hs ih=>
  have hn':=eDl.1 hn
  rw [List.filter_cons_of_pos (by simp)]
  congr 1
  rw [←ih hn'.2]
  have:∀ c∈l,decide (c∈x::a)=decide (c∈a):=by
   intro c hc
   have:c≠x:=fun e=>hn'.1 (e▸hc)
   simp [this]
  rw [ih hn'.2]
  conv=>rhs; rw [←ih hn'.2]
  exact List.filter_congr this
theorem v4j {p q:List Cd} {x y:Cd} (hn:(p++x::y::q).Nodup) (ht:tch x y=true):ord (p++x::y::q) x y=true∧ord (p++y::x::q) y x=true∧(p++y::x::q).Nodup∧(p++x::y::q).Perm (p++y::x::q):=by
 have hp:(p++x::y::q).Perm (p++y::x::q):=List.Perm.append_left p (List.Perm.swap y x q)
 have hn2:=hp.nodup_iff.1 hn
 have h1:=eDv.1 hn
 have hxp:x∉p:=fun h=>h1.2.2 x h x (by simp) rfl
 have hyp:y∉p:=fun h=>h1.2.2 y h y (by simp) rfl
 have hxy:x≠y:=by
  have:=(eDl.1 h1.2.1).1
  intro e; exact this (e▸by simp)
 have e1:(x==y)=false:=by simpa using hxy
 have e2:(y==x)=false:=by simpa using fun e=>hxy e.symm
 refine ⟨x11.2 ⟨ht,?_⟩,x11.2 ⟨by rw [v3d]; exact ht,?_⟩,hn2,hp⟩
 ·rw [v7l hxp,List.idxOf_append,if_neg hyp,List.idxOf_cons,e1]; simp
 ·rw [v7l hyp,List.idxOf_append,if_neg hxp,List.idxOf_cons,e2]; simp
end Go.Am.D12
end
section
namespace Go.Am
open D12
variable {fl fl':List Int→Bool}
theorem v55 {l:List Cd} {c:Cd} (hn:(l.map (·.n)).Nodup) {i:Nat} (h:l[i]?=some c):atO l c.n=some i:=by
 have h1:=v56 hn h
 unfold atI at h1
 cases hf:atO l c.n with
 |none=>rw [hf] at h1; simp only at h1; omega
 |some j=>
  rw [hf] at h1
  simp only at h1
  have:j=i:=by omega
  rw [this]
theorem v4c {l:List Cd} {x:Cd} (hx:x∈l):l[l.idxOf x]?=some x:=by
 have:=eDh hx
 rw [eAa this,eDi]
theorem v4k {l:List Cd} (hn:(l.map (·.n)).Nodup) {x y:Cd} (hx:x∈l) (hy:y∈l):v3b l x.n y.n=ord l x y:=by
 unfold v3b
 rw [v55 hn (v4c hx),v55 hn (v4c hy)]
 simp only [z2g (v4c hx),z2g (v4c hy)]
 unfold ord
 rw [Bool.and_comm]
theorem v46 {a b:List Cd} (ha:(a.map (·.n)).Nodup) (hb:(b.map (·.n)).Nodup) {x y:Cd} (h:w96 a b x y=true):v4l a b x.n y.n=true:=by
 unfold v4l
 rcases z32.1 h with ⟨h1,h2,h3⟩|⟨h1,h2,h3⟩
 ·rw [v4k ha h1 h2,h3]; rfl
 ·rw [v4k hb h1 h2,h3,Bool.or_true]
theorem v7x {B:Cd→Cd→Bool}:∀ {l:List Cd},Chn B l→∀ (i:Nat) (x y:Cd),l[i]?=some x→l[i+1]?=some y→B x y=true
 |[],_,i,x,y,h,_=>by simp at h
 |[_],_,i,x,y,_,h=>by simp at h
 |u::v::l,hc,0,x,y,h1,h2=>by
  simp only [eCo,Option.some.injEq] at h1
  simp only [eCe,eCo,Option.some.injEq] at h2
  rw [←h1, ←h2]; exact hc.1
 |u::v::l,hc,i+1,x,y,h1,h2=>v7x (l:=v::l) hc.2 i x y (by simpa using h1) (by simpa using h2)
theorem v53 {a b:List Cd} (h:z31 a b=0) {cs:List Cd} (h3:3≤cs.length) (h4:cs.length≤4096) (hadj:∀ (i:Nat) (x y:Cd),cs[i]?=some x→cs[i+1]?=some y→w96 a b x y=true) (hl:cs[cs.length - 1]?=cs[0]?):u0g a b (cs.map (·.n))=0:=by
 obtain ⟨da,db,_⟩:=z76 h
 have ha:=(z20 da).2.1
 have hb:=(z20 db).2.1
 unfold u0g
 rw [if_neg (by simpa using h),eBt,if_neg (by omega)]
 have hA:u1x a b (cs.map (·.n))=true:=by
  unfold u1x
  rw [eAr]
  intro i hi
  rw [eBt] at hi
  have hi:=eBo.1 hi
  obtain ⟨x,hx⟩:=z1v (show i<cs.length by omega)
  obtain ⟨y,hy⟩:=z1v (show i+1<cs.length by omega)
  have hx':(cs.map (·.n))[i]?=some x.n:=by rw [eAg,hx]; rfl
  have hy':(cs.map (·.n))[i+1]?=some y.n:=by rw [eAg,hy]; rfl
  rw [z2g hx',z2g hy']
  exact v46 ha hb (hadj i x y hx hy)
 rw [hA,if_neg (by simp)]
 obtain ⟨x,hx⟩:=z1v (show 0<cs.length by omega)
 have e1:(cs.map (·.n))[0]?=some x.n:=by rw [eAg,hx]; rfl
 have e2:(cs.map (·.n))[cs.length - 1]?=some x.n:=by rw [eAg,hl,hx]; rfl
 rw [z2g e1,z2g e2,if_pos rfl]
theorem v87 {a b cs:List Cd} (h:z31 a b=0) (hC:u2g a b cs):u0g a b (cs.map (·.n))=0:=by
 obtain ⟨c,mid,rfl,hne,hml,hsub,hch⟩:=hC
 have hm:0<mid.length:=List.length_pos_iff.2 hne
 refine v53 h (by simp; omega) (by simp; omega) (fun i x y hx hy=>z75 (v7x hch i x y hx hy)) ?_
 have e:(c::(mid++[c])).length - 1=mid.length+1:=by simp
 rw [e,eCe,eCv (eAk _),Nat.sub_self]
 rfl
theorem v6k {p q:List Cd} {x y:Cd} (hn:((p++x::y::q).map (·.n)).Nodup) (ht:tch x y=true):w96 (p++x::y::q) (p++y::x::q) x y=true∧w96 (p++x::y::q) (p++y::x::q) y x=true:=by
 obtain ⟨h1,h2,h3,h4⟩:=v4j (z28 hn) ht
 exact ⟨z32.2 (.inl ⟨by simp,by simp,h1⟩),z32.2 (.inr ⟨by simp,by simp,h2⟩)⟩
theorem v3p {l m:List Cd} (h:z4x l=0) (hp:l.Perm m):z4x m=0∧z31 l m=0:=by
 obtain ⟨h1,h2,h3⟩:=z64.1 h
 have hm:z4x m=0:=z64.2 ⟨by rw [←hp.length_eq]; exact h1,fun c hc=>h2 c (hp.mem_iff.2 hc),(hp.map _).nodup_iff.1 h3⟩
 exact ⟨hm,z72.2 ⟨h,hm,fun x hx y hy e=>z21 h3 x hx y (hp.mem_iff.2 hy) e⟩⟩
theorem v8c {l m:List Cd} (hm:∀ c∈m,c∈l):w5r l m=l:=by
 unfold w5r
 have:m.filter (fun c=>!(l.any fun d=>decide (d.n=c.n)))=[]:=by
  rw [List.filter_eq_nil_iff]
  intro c hc
  have:l.any (fun d=>decide (d.n=c.n))=true:=eCz.2 ⟨c,hm c hc,by simp⟩
  simp [this]
 rw [this,eCn]
theorem v6f {p q:List Cd} {x y:Cd} (h:z4x (p++x::y::q)=0) (ht:tch x y=true):
  z31 (p++x::y::q) (p++y::x::q)=0∧circ (p++x::y::q) (p++y::x::q)∧z57 (p++x::y::q) (p++y::x::q)=24∧u0g (p++x::y::q) (p++y::x::q) [x.n,y.n,x.n]=0:=by
 obtain ⟨h1,h2,h3,h4,h5⟩:=z20 h
 obtain ⟨e1,e2,e3,hp⟩:=v4j h3 ht
 obtain ⟨hm,hb⟩:=v3p h hp
 obtain ⟨k1,k2⟩:=v6k h2 ht
 have hall:w5r (p++x::y::q) (p++y::x::q)=p++x::y::q:=v8c fun c hc=>hp.mem_iff.2 hc
 obtain ⟨_,_,hc⟩:=z72.1 hb
 have hci:circ (p++x::y::q) (p++y::x::q):=⟨x,by rw [hall]; simp,(v2l hc).2 ((Tc.one k1).step k2)⟩
 refine ⟨hb,hci,?_,?_⟩
 ·unfold z57
  rw [if_neg (by simpa using hb),hall,if_neg (by omega),if_pos hci]
 ·refine v53 (cs:=[x,y,x]) hb (by simp) (by simp) (fun i u v hu hv=>?_) rfl
  match i,hu,hv with
  |0,hu,hv=>
   simp at hu hv; subst hu; subst hv; exact k1
  |1,hu,hv=>
   simp at hu hv; subst hu; subst hv; exact k2
  |i+2,hu,hv=>simp at hv
theorem v6h {l a b:List Cd} (h:z4x l=0) (ha:a.Sublist l) (hb:b.Sublist l) (hall:∀ x∈l,x∈a∨x∈b):
  z31 a b=0∧¬ circ a b∧(z57 a b=if unkn a b then 16 else 0)∧(z57 a b=0→v3j a b=z22 l):=by
 obtain ⟨h1,h2,h3,h4,h5⟩:=z20 h
 have da:=z51 h ha
 have db:=z51 h hb
 have hc:∀ x∈a,∀ y∈b,x.n=y.n→x=y:=fun x hx y hy e=>z21 h2 x (ha.subset hx) y (hb.subset hy) e
 have hbs:z31 a b=0:=z72.2 ⟨da,db,hc⟩
 have hno:=v48 ha hb h3 (z21 h2)
 have hlen:(w5r a b).length≤60:=by
  have hs:∀ x∈w5r a b,x∈l:=fun x hx=>by
   rcases (v2q hc).1 hx with h|h
   ·exact ha.subset h
   ·exact hb.subset h
  have:=v3g (z28 (v4z (z20 da).2.1 (z20 db).2.1)) h3 hs
  omega
 have hst:z57 a b=if unkn a b then 16 else 0:=by
  unfold z57
  rw [if_neg (by simpa using hbs),if_neg (by omega),if_neg hno]
 refine ⟨hbs,hno,hst,fun h0=>?_⟩
 unfold v3j
 rw [if_pos h0]
 refine v6i ha hb h3 (z21 h2) hall fun hu=>?_
 rw [hst,if_pos hu] at h0
 cases h0
theorem v6j {l a b:List Cd} (h:z4x l=0) (ha:a.Sublist l) (hb:b.Sublist l) (hin:∀ x∈l,∀ y∈l,x≠y→tch x y=true→(x∈a∧y∈a)∨(x∈b∧y∈b)):¬ unkn a b:=by
 obtain ⟨h1,h2,h3,h4,h5⟩:=z20 h
 have hc:∀ x∈a,∀ y∈b,x.n=y.n→x=y:=fun x hx y hy e=>z21 h2 x (ha.subset hx) y (hb.subset hy) e
 have hs:∀ x∈w5r a b,x∈l:=fun x hx=>by
  rcases (v2q hc).1 hx with h|h
  ·exact ha.subset h
  ·exact hb.subset h
 rintro ⟨x,hx,y,hy,hne,ht,k1,k2⟩
 have key:∀ u v,w96 a b u v=true→kn a b u v=true:=fun u v h=>(v2l hc).2 (.one h)
 rcases hin x (hs x hx) y (hs y hy) hne ht with ⟨p1,p2⟩|⟨p1,p2⟩
 ·rcases v2o p1 hne ht with h|h
  ·rw [key x y (z32.2 (.inl ⟨p1,p2,h⟩))] at k1; cases k1
  ·rw [key y x (z32.2 (.inl ⟨p2,p1,h⟩))] at k2; cases k2
 ·rcases v2o p1 hne ht with h|h
  ·rw [key x y (z32.2 (.inr ⟨p1,p2,h⟩))] at k1; cases k1
  ·rw [key y x (z32.2 (.inr ⟨p2,p1,h⟩))] at k2; cases k2
theorem v69 {l a:List Cd} (h:z4x l=0) (ha:a.Sublist l):v5p ((z22 l).filter fun c=>decide (c∈a)) a=0:=by
 obtain ⟨h1,h2,h3,h4,h5⟩:=z20 h
 have da:=z51 h ha
 have he:=v6m h3 (z59 h3) fun c=>decide (c∈a)
 rw [v5c h3 ha] at he
 have hp:=he.1.symm
 have dm:z4x ((z22 l).filter fun c=>decide (c∈a))=0:=(v3p da he.1).1
 unfold v5p
 rw [if_neg (by simp [v2m,da,dm]),if_neg (by simpa using hp),if_pos]
 exact (v4b (z21 (z20 da).2.1) he).symm
end Go.Am
end
