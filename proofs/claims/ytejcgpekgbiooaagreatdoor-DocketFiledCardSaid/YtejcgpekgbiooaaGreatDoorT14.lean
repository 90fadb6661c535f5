/- Texts of this claim. -/
import Derived.Test.YtejcgpekgbiooaaGreatDoorT13
import Derived.Test.YtejcgpekgbiooaaGreatDoorProg
import Derived.KernelRfl
import Derived.Lib.Split
import Derived.Lib.ParseIntBTie
import Derived.Lib.ItoaMem
import Derived.Lib.Join
import Derived.Lib.Strings
import Derived.Lib.ItoaLen
set_option linter.unusedVariables false
set_option linter.unusedSimpArgs false
set_option linter.unusedSectionVars false
set_option maxRecDepth 100000
set_option maxHeartbeats 0
open Bool renaming eq_iff_iff → eCu,not_eq_true' → eBy,and_true → eCc,false_eq_true → eAi,and_eq_true → eAb
open List renaming any_eq_true → eCz,mem_range → eBo,getD_eq_getElem?_getD → eCi,mem_of_getElem? → eAu,cons_append → eDg,mem_singleton → eBe,mem_append → eBj,mem_cons → eAz,mem_cons_self → eBq,mem_cons_of_mem → eCm,drop_eq_getElem_cons → eDe,getElem?_eq_getElem → eAa,length_eq_zero_iff → eBn,mem_iff_getElem → eDf,length_take → eBv,length_drop → eCx,map_cons → eDb,flatten_cons → eDd,append_assoc → eCg,mem_map → eBb,mem_flatten → eCj,append_nil → eCn,length_append → eBu,length_cons → eBi,getElem?_map → eAg,take_of_length_le → eDa,drop_zero → eDc,getElem?_append_left → eBz,getElem?_append_right → eCv,getElem?_eq_none → eCt,length_map → eBt,getElem_mem → eCp,all_eq_true → eAr
open Nat renaming le_refl → eAk,mul_comm → eCb,lt_or_ge → eBw,add_zero → eAt,ble_eq_true_of_le → eBg,zero_le → eAv,le_trans → eBf,mod_lt → eCr,zero_add → eAp
open Int renaming toNat_natCast → eCh
open Option renaming getD_some → eBk
open Go.Proofs.Tryz renaming prog → PG
section
namespace Go.Am.D12
theorem z85 {c:Cd}:z3d c=0↔z6x c.n∧z3a c.k≠0∧c.t.length=z3a c.k∧(∀ x∈c.t,z6x x)∧c.t.Nodup∧w1p c.k c.a:=by
 unfold z3d
 constructor
 ·intro h
  repeat' split at h
  all_goals first|(exfalso; omega)|skip
  rename_i h1 h2 h3 h4 h5
  simp only [not_or,Decidable.not_not] at h1 h2 h4 h5
  refine ⟨h1.1,h1.2,h2,fun x hx=>Decidable.byContradiction fun hn=>h3 ⟨x,hx,hn⟩,h4,h5⟩
 ·rintro ⟨h1,h2,h3,h4,h5,h6⟩
  rw [if_neg (by simp only [not_or,Decidable.not_not]; exact ⟨h1,h2⟩),if_neg (by simpa using h3),if_neg (by rintro ⟨x,hx,hn⟩; exact hn (h4 x hx)),if_neg (by simpa using h5),if_neg (by simpa using h6)]
theorem z25 {l:List Cd}:z4y l=0↔l.length≤60∧(∀ c∈l,z3d c=0)∧(l.map (·.n)).Nodup:=by
 unfold z4y
 split
 ·constructor
  ·intro h; omega
  ·intro h; omega
 ·rename_i hlen
  split
  ·rename_i c hc
   have h1:=List.find?_some hc
   have h2:=List.mem_of_find?_eq_some hc
   simp at h1
   constructor
   ·intro h; exact absurd h h1
   ·intro h; exact absurd (h.2.1 c h2) h1
  ·rename_i hc
   rw [List.find?_eq_none] at hc
   have hc':∀ c∈l,z3d c=0:=fun c h=>by simpa using hc c h
   split
   ·rename_i hn; exact ⟨fun _=>⟨by omega,hc',hn⟩,fun _=>rfl⟩
   ·rename_i hn; exact ⟨fun h=>by omega,fun h=>absurd h.2.2 hn⟩
theorem v3b {l:List Cd} (h:(l.map (·.n)).Nodup):l.Nodup:=by
 rw [List.nodup_iff_pairwise_ne] at h⊢
 rw [List.pairwise_map] at h
 exact h.imp fun h e=>h (by rw [e])
def fnd (b:List Th) (x:Int):Option Th:=b.find? fun t=>decide (t.num=x)
end Go.Am.D12
end
section
namespace Go.Am
section
variable (es l:List (List D)) (i j a b n:Nat) (x y:Int) (c d:Bool)
theorem v3q:std.ar .rem .i64 x y=x.tmod y:=rfl
end
end Go.Am
namespace Go.Am
end Go.Am
end
noncomputable section
namespace Go.Am

abbrev q0m : OT := .box [.int .i64, .int .i64, .list 1, .int .i64]
abbrev q1m : OT := .box [.int .i64, .int .i64, .nils, .int .i64]
abbrev q2m : OT := .row [ci, ci, (CK.list 1), ci]
abbrev tT := true
abbrev fF := false
abbrev W3w := (Int×Unit)
abbrev W12w := (LD×W3w)
abbrev W0w := (Int×(Int×(Int×(Int×(Int×(Int×(ByteArray×W12w)))))))
abbrev W1w := (LD×(Int×(Int×(Int×(Int×(Int×(Int×(ByteArray×(LD×(Int×W3w))))))))))
abbrev W2w := (Bool×Unit)
abbrev W6w := (ByteArray×Unit)
abbrev W4w := (LD×(Int×(Int×(Int×(Int×(Int×(Int×W6w)))))))
abbrev W5w := (Int×(Int×(LD×(Int×W2w))))
abbrev W7w := (Int×(Int×(Int×(Int×(Int×(Int×(ByteArray×(LD×Unit))))))))
abbrev W8w := (Int×(Int×(Int×W2w)))
abbrev W9w := (Int×(Int×(LD×(Int×(Int×(Int×(LD×(Int×W3w))))))))
abbrev W10w := (ByteArray×W3w)
abbrev W11w := (ByteArray×W2w)
abbrev W13w := (LD×(Int×(Int×(LD×(Int×(Bool×W6w))))))
def F55:Prim→Tup (w5w).scs→Option (STup (scss (w5w).outs)):=
 fun p x=>G55 p x
def F56:Prim→Tup (w8e).scs→Option (STup (scss (w8e).outs)):=
 fun p x=>G56 p x
def F19:Prim→Tup (w8g).scs→Option (STup (scss (w8g).outs)):=
 fun p x=>G19 p x
end Go.Am
end
noncomputable section
namespace Go.Am
def F84:Prim→Tup (v1k).scs→Option (STup (scss (v1k).outs)):=
 fun p x=>G84 p x
def v51:Ctr:=
 ⟨88,[.str],[],[(.ret,⟨[(0, .tuple [.agg [.int .i64, .int .i64, .list 1, .int .i64], .bool])],[],1⟩)]⟩
def la88:List LA:=
 [⟨88,[fF,tT,fF,tT,tT,tT],0,⟨⟨[(0, .str),(2, .bptr 0 0),(4, .list 1),(5, .bptr 1 0),(6, .int .i64)],[q1m,q1m],93⟩,[((AX.exit 0),⟨[(0, .str),(2, .bptr 0 0),(4, .list 1),(5, .bptr 1 0)],[q1m,q1m],93⟩)]⟩⟩,
 ⟨88,[fF,tT,fF,tT,tT,tT,tT,tT,tT],0,⟨⟨[(0, .str),(2, .bptr 0 0),(5, .bptr 1 0),(8, .vec 2 1),(43, .list 1),(44, .int .i64),(45, .int .i64)],[q1m,q1m, .row [ci]],93⟩,[(AX.ret,⟨[(2, .bptr 0 0),(3, .bool)],[q1m],93⟩),((AX.exit 2),⟨[(0, .str),(2, .bptr 0 0),(5, .bptr 1 0),(8, .vec 2 1)],[q1m,q1m, .row [ci]],93⟩)]⟩⟩]
def ja88:List JA:=
 [⟨88,[fF,tT,tT,fF,fF,tT,fF,tT,tT,tT,tT,tT,tT],0,[(AX.ret,⟨[(2, .bptr 0 0),(3, .bool)],[q1m],93⟩),(AX.normal,⟨[(0, .str),(2, .bptr 0 0),(5, .bptr 1 0),(8, .vec 2 1),(43, .list 1),(44, .int .i64),(45, .int .i64)],[q1m,q1m, .row [ci]],93⟩)]⟩,
 ⟨88,[tT,tT,fF,fF,tT,fF,fF,tT,fF,tT,tT,tT],0,[(AX.normal,⟨[(0, .str),(2, .bptr 0 0),(4, .list 1),(5, .bptr 1 0),(6, .int .i64)],[q1m,q1m],93⟩)]⟩,
 ⟨88,[fF,tT,fF,fF,tT,fF,tT,tT,tT],0,[(AX.normal,⟨[(0, .str),(2, .bptr 0 0),(4, .list 1),(5, .bptr 1 0),(6, .int .i64)],[q1m,q1m],93⟩)]⟩]
def v6e:List CF:=
 [⟨x4v,v2x⟩,⟨v1k,F84⟩,⟨w8e,F56⟩,⟨w5w,F55⟩,⟨x4x,v2z⟩,⟨x4w,v2y⟩]
def an88:Anns:=
 ⟨v6e,ja88,[⟨88,[false,true,true,true,true,true,true,true],⟨[(0, .str),(2, .bptr 0 0),(5, .bptr 1 0),(8, .list 1)],[.box [.int .i64, .int .i64, .nils, .int .i64], .box [.int .i64, .int .i64, .nils, .int .i64]],93⟩⟩]⟩
def v3e (p:Prim):W1w→Option (W1w⊕(W8w⊕W4w)):=
 fun a=>let A:=(a.2.2.2.2.1,(a.2.2.2.2.2.1,(a.2.2.2.2.2.2.1,(Bool.false,()))));let E:=p.len a.1;let C:=a.2.2.2.2.2.2.2.2.2.2.1; opt.run _ (
 opt.ask _ (p.cmp .lss C a.2.2.2.2.2.2.2.2.2.1) (
 opt.alt (W8w) (W1w) _ (
 opt.run ((W8w⊕W1w)) (
 opt.need _ (p.rowOk a.2.2.2.2.2.2.2.2.1 (p.nat C) [CK.str])<|
 opt.need _ (p.cmp .geq C (0:Int))<|
 opt.alt (W3w) (W3w) _ (v10 p ((p.rdS a.2.2.2.2.2.2.2.2.1 (p.nat C) 0),((10:Int),((64:Int),())))) (fun b=>let F:=[[(D.int .i64 b.1)]];let B:=p.app (p.cut a.1 0 E) (p.cut F 0 1);
 opt.bnd (W2w) _ (G56 p ((-1099511627776:Int),((1099511627776:Int),(F,())))) fun c=>
 opt.ask _ (bif c.1 then Bool.false else Bool.true) (
 opt.ret _ (Sum.inl A)) (
 opt.need _ (p.and (p.leN (p.add 0 1) (p.len F)) (p.and (p.leN (p.add 0 E) E) (p.and (p.leN 1 1) (p.leN (p.add E 1) 1000000))))<|
 opt.need _ (p.eqN 0 0)<|
 opt.need _ (p.eqN (p.add E 1) (p.len B))<|
 opt.ret _ (Sum.inr (B,a.2)))) (fun d=>
 opt.bnd (W3w) _ (some d) fun e=>
 opt.ret _ (Sum.inl A)))) (fun f=>
 opt.ret _ (Sum.inr (Sum.inl f))) (fun g=>
 opt.bnd (W1w) _ (some g) fun h=>
 opt.need _ (p.eqN 0 0)<|
 opt.need _ (p.eqN (p.len h.1) (p.len h.1))<|
 opt.ret _ (Sum.inl (h.1,(h.2.1,(h.2.2.1,(h.2.2.2.1,(h.2.2.2.2.1,(h.2.2.2.2.2.1,(h.2.2.2.2.2.2.1,(h.2.2.2.2.2.2.2.1,(h.2.2.2.2.2.2.2.2.1,(h.2.2.2.2.2.2.2.2.2.1,((p.ar .add .i64 h.2.2.2.2.2.2.2.2.2.2.1 (1:Int)),())))))))))))))) (
 opt.need _ (p.eqN 0 0)<|
 opt.need _ (p.eqN E E)<|
 opt.ret _ (Sum.inr (Sum.inr (a.1,(a.2.1,(a.2.2.1,(a.2.2.2.1,(a.2.2.2.2.1,(a.2.2.2.2.2.1,(a.2.2.2.2.2.2.1,(a.2.2.2.2.2.2.2.1,()))))))))))))
def v3m (p:Prim):W0w→Option (W0w⊕W7w):=
 fun a=>let A:=a.2.2.2.2.2.2.2.1; opt.run _ (
 opt.ask _ (p.cmp .leq a.2.2.2.2.2.2.2.2.1 (6:Int)) (
 opt.bnd (W0w) _ (
 opt.run (W0w) (
 opt.bnd ((ByteArray×(Int×(Int×W3w)))) _ (G55 p a.2.2.2.2.2.2.2.2) fun b=>
 opt.need _ (p.rowOk A (p.nat (0:Int)) [CK.str])<|
 opt.ask _ (p.strEq b.1 (p.rdS A (p.nat (0:Int)) 0)) (
 opt.bnd (W0w) _ (
 opt.run (W0w) (
 opt.ask _ (p.cmp .eql (p.ofNat (p.len A)) (p.ar .add .i64 b.2.1 (3:Int))) (
 opt.ret _ (a.1,(a.2.1,(a.2.2.1,(a.2.2.2.1,(a.2.2.2.2.2.2.2.2.1,a.2.2.2.2.2)))))) (
 opt.ret _ a))) fun c=>
 opt.ret _ c) (
 opt.bnd (W0w) _ (
 opt.run (W0w) (
 opt.ret _ a)) fun d=>
 opt.ret _ d))) fun e=>
 opt.ret _ (Sum.inl (e.1,(e.2.1,(e.2.2.1,(e.2.2.2.1,(e.2.2.2.2.1,(e.2.2.2.2.2.1,(e.2.2.2.2.2.2.1,(e.2.2.2.2.2.2.2.1,((p.ar .add .i64 e.2.2.2.2.2.2.2.2.1 (1:Int)),()))))))))))) (
 opt.ret _ (Sum.inr (a.1,(a.2.1,(a.2.2.1,(a.2.2.2.1,(a.2.2.2.2.1,(a.2.2.2.2.2.1,(a.2.2.2.2.2.2.1,(A,())))))))))))
def G88:(p:Prim)→W6w→Option (W5w):=
 fun p x=>let H:=(1:Int);let E:=p.nat H;let F:=(0:Int);
 opt.bnd (W6w) _ (v11 p (x.1,((ByteArray.mk #[10]),()))) fun a=>
 opt.bnd ((LD×Unit)) _ (v12 p (a.1,((ByteArray.mk #[32]),()))) fun b=>
 opt.bnd (W7w) _ (
 z5r (v3m p) (F,(F,(F,(F,(F,(F,(x.1,(b.1,(H,())))))))))) fun c=>let C:=p.ofNat (p.len c.2.2.2.2.2.2.2.1);let G:=p.cut c.2.2.2.2.2.2.2.1 E (p.sub (p.nat C) E);
 opt.ask _ (p.cmp .eql c.2.2.2.2.1 F) (
 opt.ret _ (c.2.2.2.1,(c.2.2.2.2.1,([],(c.2.2.2.2.2.1,(Bool.false,())))))) (
 opt.need _ (p.and (p.cmp .geq H F) (p.and (p.cmp .leq H C) (p.cmp .leq C C)))<|
 opt.alt (W8w) (W4w) _ (
 z5r (v3e p) ([],(c.1,(c.2.1,(c.2.2.1,(c.2.2.2.1,(c.2.2.2.2.1,(c.2.2.2.2.2.1,(c.2.2.2.2.2.2.1,(G,((p.ofNat (p.len G)),(F,())))))))))))) (fun d=>
 opt.ret _ (d.1,(d.2.1,([],d.2.2)))) (fun e=>
 opt.bnd (W4w) _ (some e) fun f=>let B:=p.cut f.1 0 (p.len f.1);let A:=p.ar .sub .i64 (p.ofNat (p.len B)) H;let J:=p.nat A;let I:=p.cut B E (p.sub J E);
 opt.need _ (p.leN (p.add 0 (p.len f.1)) (p.len f.1))<|
 opt.need _ (p.rowOk B (p.nat F) [ci])<|
 opt.need _ (p.and (p.cmp .geq H F) (p.and (p.cmp .leq H A) (p.and (p.cmp .leq A A) (p.cmp .leq A (p.ofNat (p.len B))))))<|
 opt.need _ (p.rowOk B J [ci])<|
 opt.need _ (p.cmp .geq A F)<|
 opt.bnd (W6w) _ (G84 p ((p.rdI B (p.nat F) 0),(f.2.2.2.2.2.1,(I,((p.rdI B J 0),()))))) fun g=>
 opt.ret _ ((p.rdI B (p.nat F) 0),(f.2.2.2.2.2.1,(I,((p.rdI B J 0),((p.strEq g.1 f.2.2.2.2.2.2.2.1),())))))))
theorem ok88:CtrOk PG v51 (G88 std):=okF vE (a:=an88) (l:=la88) (gC w97 (gC ok84 (gC ok56 (gC v2c (gC w99 (gC w98 (gN)))))))
def v54:Ctr:=
 ⟨39,[.str],[],[(.ret,⟨[(0, .tuple [.vec 0 4, .int .i64])],[q2m],1⟩)]⟩
def la39:List LA:=
 [⟨39,[fF,fF,tT,tT,tT,tT,fF,tT],0,⟨⟨[(0, .str),(4, .vec 0 4),(5, .bool)],[q2m],48⟩,[((AX.exit 0),⟨[(4, .vec 0 4),(5, .bool)],[q2m],48⟩)]⟩⟩]
def ja39:List JA:=
 [⟨39,[fF,tT,tT,fF,tT,fF,fF,fF,tT,tT,tT,tT,fF,tT],0,[(AX.normal,⟨[(4, .vec 0 4),(5, .bool),(7, .str),(9, .bptr 1 0)],[q2m,q0m],48⟩)]⟩]
def v6h:List CF:=
 [⟨w8g,F19⟩,⟨v51,G88⟩,⟨w15,F87⟩]
def an39:Anns:=
 ⟨v6h,ja39,[]⟩
def z64 (p:Prim):(LD×W11w)→Option ((LD×W11w)⊕(LD×W2w)):=
 fun a=>let C:=p.eqN (p.len a.1) (p.len a.1);let E:=p.eqN 0 0;let F:=ByteArray.mk #[10]; opt.run _ (
 opt.ask _ (bif (p.strEq a.2.1 (ByteArray.mk #[])) then Bool.false else Bool.true) (
 opt.bnd ((ByteArray×W11w)) _ (G87 p (a.2.1,(F,()))) fun b=>
 opt.need _ (p.leN (p.add (p.slen b.1) (p.slen F)) 1000000)<|
 opt.bnd (W5w) _ (G88 p ((p.scat b.1 F),())) fun c=>
 opt.bnd (W13w) _ (
 opt.run (W13w) (
 opt.ask _ b.2.2.1 (
 opt.need _ E<|
 opt.need _ C<|
 opt.ret _ (a.1,(c.1,(c.2.1,(c.2.2.1,(c.2.2.2.1,(c.2.2.2.2.1,(b.2.1,())))))))) (
 opt.need _ E<|
 opt.need _ C<|
 opt.ret _ (a.1,(c.1,(c.2.1,(c.2.2.1,(c.2.2.2.1,(Bool.false,(b.2.1,())))))))))) fun d=>let A:=[[(D.int .i64 d.2.1),(D.int .i64 d.2.2.1),(D.list Bool.false 1 d.2.2.2.1),(D.int .i64 d.2.2.2.2.1)]];let B:=p.len d.1;let G:=p.app (p.cut d.1 0 B) (p.cut A 0 1);let H:=d.2.2.2.2.2.1;
 opt.ask _ (bif H then Bool.false else Bool.true) (
 opt.need _ E<|
 opt.need _ (p.eqN B B)<|
 opt.ret _ (Sum.inr (d.1,(H,())))) (
 opt.need _ (p.and (p.leN (p.add 0 1) (p.len A)) (p.and (p.leN (p.add 0 B) B) (p.and (p.leN 1 1) (p.leN (p.add B 1) 1000000))))<|
 opt.need _ E<|
 opt.need _ (p.eqN (p.add B 1) (p.len G))<|
 opt.ret _ (Sum.inl (G,(d.2.2.2.2.2.2.1,(H,())))))) (
 opt.need _ E<|
 opt.need _ C<|
 opt.ret _ (Sum.inr (a.1,a.2.2))))
def G39:(p:Prim)→W6w→Option (W12w):=
 fun p x=>
 opt.ask _ (p.cmp .gtr (p.ofNat (p.slen x.1)) (65536:Int)) (
 opt.ret _ ([],((7:Int),()))) (
 opt.bnd ((LD×W2w)) _ (
 z5r (z64 p) ([],(x.1,(Bool.true,())))) fun a=>let A:=p.len a.1;
 opt.ask _ (bif a.2.1 then Bool.false else Bool.true) (
 opt.ret _ ([],((8:Int),()))) (
 opt.need _ (p.and (p.leN (p.add 0 A) A) Bool.true)<|
 opt.bnd (W3w) _ (G19 p ((p.cut a.1 0 A),())) fun b=>
 opt.ask _ (p.cmp .neq b.1 (0:Int)) (
 opt.ret _ ([],b)) (
 opt.need _ (p.eqN 0 0)<|
 opt.need _ (p.eqN A A)<|
 opt.ret _ (a.1,((0:Int),())))))
theorem ok39:CtrOk PG v54 (G39 std):=okF vE (a:=an39) (l:=la39) (gC v2d (gC ok88 (gC ok87 (gN))))
end Go.Am
end
noncomputable section
namespace Go.Am
def v52:Ctr:=
 ⟨77,[.agg [.int .i64, .int .i64, .list 1, .int .i64], .agg [.int .i64, .int .i64, .list 1, .int .i64]],[],[(.ret,⟨[(0, .bool)],[],1⟩)]⟩
def la77:List LA:=
 [⟨77,[fF,tT,fF,tT,tT],0,⟨⟨[(2, .bptr 0 0),(3, .bptr 1 0),(5, .int .i64)],[q0m,q0m],52⟩,[(AX.ret,⟨[(4, .bool)],[],52⟩),((AX.exit 0),⟨[],[],52⟩)]⟩⟩]
def ja77:List JA:=
 [⟨77,[fF,fF,tT],0,[(AX.normal,⟨[(2, .bptr 0 0),(3, .bptr 1 0),(33, .bool)],[q0m,q0m],52⟩)]⟩]
def v6f:List CF:=
 []
def an77:Anns:=
 ⟨v6f,ja77,[]⟩
def v4f (p:Prim):W9w→Option (W9w⊕(W2w⊕Unit)):=
 fun a=>let A:=a.2.2.2.2.2.2.2.2.1;let B:=a.2.2.2.2.2.2.1;let C:=p.cmp .geq A (0:Int);let E:=p.nat A; opt.run _ (
 opt.ask _ (p.cmp .lss A (p.ofNat (p.len a.2.2.1))) (
 opt.need _ (p.rowOk a.2.2.1 E [ci])<|
 opt.need _ C<|
 opt.need _ (p.rowOk B E [ci])<|
 opt.need _ C<|
 opt.ask _ (p.cmp .neq (p.rdI a.2.2.1 E 0) (p.rdI B E 0)) (
 opt.ret _ (Sum.inr (Sum.inl (Bool.false,())))) (
 opt.ret _ (Sum.inl (a.1,(a.2.1,(a.2.2.1,(a.2.2.2.1,(a.2.2.2.2.1,(a.2.2.2.2.2.1,(B,(a.2.2.2.2.2.2.2.1,((p.ar .add .i64 A (1:Int)),())))))))))))) (
 opt.ret _ (Sum.inr (Sum.inr ()))))
def G77:(p:Prim)→(Int×(Int×(LD×(Int×(Int×(Int×W12w))))))→Option (W2w):=
 fun p x=>let E:=x.2.2.2.2.2.1;let C:=x.2.2.2.2.2.2.1;let B:=x.2.2.2.2.2.2.2.1;let A:=(x.1,(x.2.1,(x.2.2.1,(x.2.2.2.1,(x.2.2.2.2.1,(E,(C,(B,(Bool.true,())))))))));
 opt.bnd ((Int×(Int×(LD×(Int×W5w))))) _ (
 opt.run ((Int×(Int×(LD×(Int×W5w))))) (
 opt.ask _ (p.cmp .neq x.1 x.2.2.2.2.1) (
 opt.ret _ A) (
 opt.ask _ (p.cmp .neq x.2.1 E) (
 opt.ret _ A) (
 opt.ask _ (p.cmp .neq x.2.2.2.1 B) (
 opt.ret _ A) (
 opt.ret _ (x.1,(x.2.1,(x.2.2.1,(x.2.2.2.1,(x.2.2.2.2.1,(E,(C,(B,((p.cmp .neq (p.ofNat (p.len x.2.2.1)) (p.ofNat (p.len C))),())))))))))))))) fun a=>
 opt.ask _ a.2.2.2.2.2.2.2.2.1 (
 opt.ret _ (Bool.false,())) (
 opt.alt (W2w) (Unit) _ (
 z5r (v4f p) (a.1,(a.2.1,(a.2.2.1,(a.2.2.2.1,(a.2.2.2.2.1,(a.2.2.2.2.2.1,(a.2.2.2.2.2.2.1,(a.2.2.2.2.2.2.2.1,((0:Int),())))))))))) (fun b=>
 opt.ret _ b) (fun c=>
 opt.bnd (Unit) _ (some c) fun d=>
 opt.ret _ (Bool.true,())))
theorem ok77:CtrOk PG v52 (G77 std):=okF vE (a:=an77) (l:=la77) (gN)
def v55:Ctr:=
 ⟨34,[.list 4, .list 4],[],[(.ret,⟨[(0, .bool)],[],1⟩)]⟩
def la34:List LA:=
 [⟨34,[fF,tT,fF,tT,tT],0,⟨⟨[(0, .list 4),(1, .list 4),(5, .int .i64)],[],27⟩,[(AX.ret,⟨[(4, .bool)],[],27⟩),((AX.exit 0),⟨[],[],27⟩)]⟩⟩]
def ja34:List JA:=
 []
def v6i:List CF:=
 [⟨v52,G77⟩]
def an34:Anns:=
 ⟨v6i,ja34,[]⟩
def v5o (p:Prim):(LD×W12w)→Option ((LD×W12w)⊕(W2w⊕Unit)):=
 fun a=>let A:=p.nat a.2.2.1;let B:=p.cmp .geq a.2.2.1 (0:Int);let C:=[ci,ci,(CK.list 1),ci]; opt.run _ (
 opt.ask _ (p.cmp .lss a.2.2.1 (p.ofNat (p.len a.1))) (
 opt.need _ (p.rowOk a.1 A C)<|
 opt.need _ B<|
 opt.need _ (p.rowOk a.2.1 A C)<|
 opt.need _ B<|
 opt.bnd (W2w) _ (G77 p ((p.rdI a.1 A 0),((p.rdI a.1 A 1),((p.rdL a.1 A 2),((p.rdI a.1 A 3),((p.rdI a.2.1 A 0),((p.rdI a.2.1 A 1),((p.rdL a.2.1 A 2),((p.rdI a.2.1 A 3),()))))))))) fun b=>
 opt.ask _ (bif b.1 then Bool.false else Bool.true) (
 opt.ret _ (Sum.inr (Sum.inl (Bool.false,())))) (
 opt.ret _ (Sum.inl (a.1,(a.2.1,((p.ar .add .i64 a.2.2.1 (1:Int)),())))))) (
 opt.ret _ (Sum.inr (Sum.inr ()))))
def G34:(p:Prim)→(LD×(LD×Unit))→Option (W2w):=
 fun p x=>
 opt.ask _ (p.cmp .neq (p.ofNat (p.len x.1)) (p.ofNat (p.len x.2.1))) (
 opt.ret _ (Bool.false,())) (
 opt.alt (W2w) (Unit) _ (
 z5r (v5o p) (x.1,(x.2.1,((0:Int),())))) (fun a=>
 opt.ret _ a) (fun b=>
 opt.bnd (Unit) _ (some b) fun c=>
 opt.ret _ (Bool.true,())))
theorem ok34:CtrOk PG v55 (G34 std):=okF vE (a:=an34) (l:=la34) (gC ok77 (gN))
def F15:Prim→Tup (w8h).scs→Option (STup (scss (w8h).outs)):=
 fun p x=>G15 p x
def F20:Prim→Tup (w8f).scs→Option (STup (scss (w8f).outs)):=
 fun p x=>G20 p x
def v53:Ctr:=
 ⟨41,[.list 4],[],[(.ret,⟨[(0, .bool)],[],1⟩)]⟩
def la41:List LA:=
 []
def ja41:List JA:=
 [⟨41,[fF,tT],0,[(AX.normal,⟨[(2, .bool)],[],11⟩)]⟩]
def v6g:List CF:=
 [⟨w8f,F20⟩,⟨w8h,F15⟩]
def an41:Anns:=
 ⟨v6g,ja41,[]⟩
def G41:(p:Prim)→(LD×Unit)→Option (W2w):=
 fun p x=>
 opt.bnd (W2w) _ (
 opt.run (W2w) (
 opt.bnd (W2w) _ (G15 p x) fun a=>
 opt.ask _ (bif a.1 then Bool.false else Bool.true) (
 opt.bnd (W3w) _ (G20 p x) fun b=>
 opt.ret _ ((p.cmp .eql b.1 (0:Int)),())) (
 opt.ret _ (Bool.false,())))) fun c=>
 opt.ret _ c
theorem ok41:CtrOk PG v53 (G41 std):=okF vE (a:=an41) (l:=la41) (gC ok20 (gC ok15 (gN)))
end Go.Am
end
section
namespace Go.Am
open D12
variable {fl fl':List Int→Bool}
theorem v4w {α:Type} [DecidableEq α] {a b:List α} (d:α) (h:a.length=b.length):((List.range a.length).any fun i=>!decide (a.getD i d=b.getD i d))=!decide (a=b):=by
 rw [eCu,eCz]
 simp only [eBy,decide_eq_false_iff_not,eBo]
 constructor
 ·rintro ⟨i,hi,hne⟩ rfl; exact hne rfl
 ·intro hne
  refine Decidable.byContradiction fun hno=>hne (List.ext_getElem h fun i h1 h2=>?_)
  have:=Decidable.byContradiction fun hh=>hno ⟨i,h1,hh⟩
  simpa [eCi,h1,h2] using this
theorem eqL {α:Type} [DecidableEq α] (ea eb:List α→List (List D)) (he:∀ l,(ea l).length=l.length) (hf:∀ l,(eb l).length=l.length)
  {b:(List (List D)×(List (List D)×(Int×Unit)))→Option ((List (List D)×(List (List D)×(Int×Unit)))⊕((Bool×Unit)⊕Unit))} (a c:List α) (d:α)
  (step:∀ (i:Nat) m m',a[i]?=some m→c[i]?=some m'→(i:Int)<a.length→(i:Int)<c.length→b (ea a,(eb c,((i:Int),())))=if (!decide (m=m'))=true then some (.inr (.inl (false,()))) else some (.inl (ea a,(eb c,(((i+1:Nat):Int),())))))
  (stop:¬ (a.length:Int)<a.length→b (ea a,(eb c,((a.length:Int),())))=some (.inr (.inr ()))):
  opt.ask _ (std.cmp .neq (std.ofNat (std.len (ea a))) (std.ofNat (std.len (eb c)))) (opt.ret _ (false,())) (opt.alt (Bool×Unit) Unit _ (z5r b (ea a,(eb c,((0:Int),())))) (fun y=>opt.ret _ (y.1,())) (fun y=>opt.bnd Unit _ (some y) fun _=>opt.ret _ (true,())))=some (decide (a=c),()):=by
 by_cases hl:a.length=c.length
 ·have key:=z9b (b:=b) a.length (fun i=>(ea a,(eb c,((i:Int),())))) (fun i=>!decide (a.getD i d=c.getD i d)) (.inl (false,())) (.inr ()) (fun i hi=>by
   obtain ⟨m,hm⟩:=z1v hi
   obtain ⟨m',hm'⟩:=z1v (l:=c) (i:=i) (by omega)
   rw [z2h hm,z2h hm']
   exact step i m m' hm hm' (by omega) (by omega)) (stop (by omega))
  have key:z5r b (ea a,(eb c,((0:Int),())))=_:=key
  rw [v4w d hl] at key
  have hc:std.cmp .neq (std.ofNat (std.len (ea a))) (std.ofNat (std.len (eb c)))=false:=by simp [std,z3o,he,hf,hl]
  rw [hc,key]
  by_cases e:a=c
  ·simp [e,opt]
  ·simp [e,opt]
 ·have hne:a≠c:=fun h=>hl (by rw [h])
  have hc:std.cmp .neq (std.ofNat (std.len (ea a))) (std.ofNat (std.len (eb c)))=true:=by simp [std,z3o,he,hf]; omega
  rw [hc]
  simp [hne,opt]
theorem v57 (c d:Cd) (hc:c.t.length≤1000000):G77 std (c.n,(c.k,(z1a c.t,(c.a,(d.n,(d.k,(z1a d.t,(d.a,()))))))))=some (decide (c=d),()):=by
 obtain ⟨n1,k1,t1,a1⟩:=c
 obtain ⟨n2,k2,t2,a2⟩:=d
 simp only at hc⊢
 unfold G77
 by_cases e1:n1=n2
 ·by_cases e2:k1=k2
  ·by_cases e3:a1=a2
   ·subst e1 e2 e3
    by_cases hl:t1.length=t2.length
    ·have key:=z9b (b:=v4f std) t1.length (fun i=>(n1,(k1,(z1a t1,(a1,(n1,(k1,(z1a t2,(a1,((i:Int),())))))))))) (fun i=>!decide (t1.getD i 0=t2.getD i 0)) (.inl (false,())) (.inr ()) (fun i hi=>by
      obtain ⟨m,hm⟩:=z1v hi
      obtain ⟨m',hm'⟩:=z1v (l:=t2) (i:=i) (by omega)
      obtain ⟨hw,h0⟩:=stp i (by omega)
      have hlt:(i:Int)<t1.length:=by omega
      have hlb:(i:Int)<t2.length:=by omega
      simp only [z2h hm,z2h hm',v4f,z2d,z2e,z0p,z1a,z5s,y4y,z4b,Int.reduceLT,Int.reduceEq,Int.reduceLE,hm,hm',hlt,hlb,h0,hw]) (by
      have hn:¬ (t1.length:Int)<t1.length:=by omega
      simp only [v4f,z2d,z2e,z0p,z1a,z5s,y4y,hn])
     have key:z5r (v4f std) (n1,(k1,(z1a t1,(a1,(n1,(k1,(z1a t2,(a1,((0:Int),())))))))))=_:=key
     rw [v4w 0 hl] at key
     have hll:((t1.length:Nat):Int)=(t2.length:Nat):=by omega
     simp only [z2d,z2e,z00,z4b,Int.reduceLT,Int.reduceEq,Int.reduceLE,hll,key]
     by_cases e:t1=t2<;>simp [e]
    ·have hne:t1≠t2:=fun h=>hl (by rw [h])
     have hll:¬ ((t1.length:Nat):Int)=(t2.length:Nat):=by omega
     simp only [z2d,z2e,z00,z4b,Int.reduceLT,Int.reduceEq,Int.reduceLE,hll,Cd.mk.injEq,hne]
     simp
   ·simp only [z2d,z2e,z4b,Int.reduceLT,Int.reduceEq,Int.reduceLE,e1,e2,e3,Cd.mk.injEq]
    simp
  ·simp only [z2d,z2e,z4b,Int.reduceLT,Int.reduceEq,Int.reduceLE,e1,e2,Cd.mk.injEq]
   simp
 ·simp only [z2d,z2e,z4b,Int.reduceLT,Int.reduceEq,Int.reduceLE,e1,Cd.mk.injEq]
  simp
theorem v58 (a b:List Cd) (ha:a.length≤1000000) (hr:∀ c∈a,c.t.length≤1000000):G34 std (z0p fl a,(z0p fl' b,()))=some (decide (a=b),()):=by
 unfold G34
 refine eqL (z0p fl) (z0p fl') z2i z2i a b default (fun i m m' hm hm' hlt hlb=>?_) (fun hn=>?_)
 ·obtain ⟨hw,h0⟩:=stp i (by omega)
  have h77:=v57 m m' (hr m (eAu hm))
  simp only [v5o,z2d,z2e,z0p,z1a,z5s,y4y,z4b,Int.reduceLT,Int.reduceEq,Int.reduceLE,hm,hm',hlt,hlb,h0,hw]
  simp only [z1a] at h77
  simp only [h77,z2d,z2e]
  by_cases e:m=m'<;>simp [e]
 ·simp only [v5o,z2d,z2e,z0p,z1a,z5s,y4y,hn]
end Go.Am
end
section
namespace Go.Am
open D12
variable {fl fl':List Int→Bool}
def v5r (l:List Cd):Bool:=!x8g l&&decide (z4y l=0)
theorem v4i (l:List Cd):G41 std (z0p fl l,())=some (v5r l,()):=by
 unfold G41 v5r
 cases h:x8g l with
 |true=>simp only [z2d,z2e,z4b,Int.reduceLT,Int.reduceEq,Int.reduceLE,w3t,h]; simp
 |false=>
  simp only [z2d,z2e,z4b,Int.reduceLT,Int.reduceEq,Int.reduceLE,w3t,h,w8x l (x0p h).1]
end Go.Am
end
noncomputable section
namespace Go.Am
def v6l:Ctr:=
 ⟨11,[.list 4, .str, .int .u8],[],[(.ret,⟨[(0, .bool)],[],1⟩)]⟩
def la11:List LA:=
 []
def ja11:List JA:=
 [⟨11,[fF,tT,fF,tT,tT,fF,tT,tT],0,[(AX.normal,⟨[(0, .list 4),(2, .int .u8),(47, .bool)],[],110⟩)]⟩,
 ⟨11,[tT,tT,fF,tT,tT],0,[(AX.ret,⟨[(6, .bool)],[],110⟩),(AX.normal,⟨[(0, .list 4),(2, .int .u8)],[],110⟩)]⟩,
 ⟨11,[fF,tT,tT,tT,tT,tT,tT,tT,tT,tT,tT],0,[(AX.normal,⟨[(6, .bool)],[],110⟩)]⟩,
 ⟨11,[fF,fF,tT,tT,tT,tT,tT,tT],0,[(AX.normal,⟨[(0, .list 4),(2, .int .u8),(11, .str),(73, .bool)],[],110⟩)]⟩]
def v6j:List CF:=
 [⟨v54,G39⟩,⟨v55,G34⟩,⟨v53,G41⟩,⟨w17,F37⟩,⟨w18,F16⟩]
def an11:Anns:=
 ⟨v6j,ja11,[]⟩
def G11:(p:Prim)→(LD×W10w)→Option (W2w):=
 fun p x=>let C:=(0:Int);let G:=(x.1,(x.2.2.1,(Bool.true,())));
 opt.ask _ (p.cmp .gtr (p.ofNat (p.slen x.2.1)) (4000:Int)) (
 opt.bnd (W2w) _ (G16 p ()) fun a=>
 opt.ret _ a) (
 opt.bnd (W12w) _ (G39 p (x.2.1,())) fun b=>let E:=p.and (p.leN (p.add 0 (p.len b.1)) (p.len b.1)) Bool.true;let H:=((p.cut b.1 0 (p.len b.1)),());
 opt.alt (W2w) (W12w) _ (
 opt.run ((W2w⊕W12w)) (
 opt.ask _ (p.cmp .eql b.2.1 C) (
 opt.need _ E<|
 opt.bnd (W10w) _ (G37 p H) fun c=>
 opt.bnd ((LD×(Int×W2w))) _ (
 opt.run ((LD×(Int×W2w))) (
 opt.ask _ (p.cmp .neq c.2.1 C) (
 opt.ret _ G) (
 opt.ask _ (bif (p.strEq c.1 x.2.1) then Bool.false else Bool.true) (
 opt.ret _ G) (
 opt.need _ E<|
 opt.bnd (W2w) _ (G41 p H) fun d=>
 opt.ret _ (x.1,(x.2.2.1,((bif d.1 then Bool.false else Bool.true),()))))))) fun e=>
 opt.ask _ e.2.2.1 (
 opt.ret _ (Sum.inl (Bool.false,()))) (
 opt.ret _ (Sum.inr (e.1,(e.2.1,()))))) (
 opt.ret _ (Sum.inr (x.1,x.2.2))))) (fun f=>
 opt.ret _ f) (fun g=>
 opt.bnd (W12w) _ (some g) fun h=>
 opt.bnd (W2w) _ (G41 p (h.1,())) fun i=>
 opt.ask _ (bif i.1 then Bool.false else Bool.true) (
 opt.bnd (W2w) _ (G16 p ()) fun j=>
 opt.ret _ j) (
 opt.bnd (W10w) _ (G37 p (h.1,())) fun k=>let F:=(h.1,(h.2.1,(k.1,(Bool.true,()))));
 opt.bnd (W12w) _ (G39 p (k.1,())) fun l=>
 opt.bnd ((LD×(Int×W11w))) _ (
 opt.run ((LD×(Int×W11w))) (
 opt.ask _ (p.cmp .neq k.2.1 C) (
 opt.ret _ F) (
 opt.ask _ (p.cmp .neq l.2.1 C) (
 opt.ret _ F) (
 opt.need _ (p.and (p.leN (p.add 0 (p.len l.1)) (p.len l.1)) (p.and Bool.true Bool.true))<|
 opt.bnd (W2w) _ (G34 p ((p.cut l.1 0 (p.len l.1)),(h.1,()))) fun m=>
 opt.ret _ (h.1,(h.2.1,(k.1,((bif m.1 then Bool.false else Bool.true),())))))))) fun n=>let B:=p.ofNat (p.len n.1);let I:=p.ar .add .i64 B (1:Int);let A:=p.ar .rem .i64 (p.cvt .i64 n.2.1) I;
 opt.ask _ n.2.2.2.1 (
 opt.ret _ (Bool.false,())) (
 opt.need _ (p.cmp .neq I C)<|
 opt.need _ (p.and (p.cmp .geq C C) (p.and (p.cmp .leq C A) (p.cmp .leq A B)))<|
 opt.bnd (W10w) _ (G37 p ((p.cut n.1 (p.nat C) (p.sub (p.nat A) (p.nat C))),())) fun o=>
 opt.need _ (p.and (p.cmp .geq A C) (p.and (p.cmp .leq A B) (p.cmp .leq B B)))<|
 opt.bnd (W10w) _ (G37 p ((p.cut n.1 (p.nat A) (p.sub (p.nat B) (p.nat A))),())) fun q=>
 opt.bnd (W2w) _ (
 opt.run (W2w) (
 opt.ask _ (p.cmp .eql o.2.1 C) (
 opt.ask _ (p.cmp .eql q.2.1 C) (
 opt.need _ (p.leN (p.add (p.slen o.1) (p.slen q.1)) 1000000)<|
 opt.ask _ (p.strEq (p.scat o.1 q.1) n.2.2.1) (
 opt.bnd (W2w) _ (G16 p ()) fun r=>
 opt.ret _ r) (
 opt.ret _ (Bool.false,()))) (
 opt.ret _ (Bool.false,()))) (
 opt.ret _ (Bool.false,())))) fun t=>
 opt.ret _ t))))
theorem ok11:CtrOk PG v6l (G11 std):=okF vE (a:=an11) (l:=la11) (gC ok39 (gC ok34 (gC ok41 (gC ok37 (gC ok16 (gN))))))
end Go.Am
end
section
namespace Go.Am.D12
open Go.Lib (decDigits itoa)
abbrev Bs:=List UInt8
def z59 (b:UInt8):Prop:=48≤b.toNat∧b.toNat≤57
def dv (b:UInt8):Nat:=b.toNat - 48
def stD (a:Nat) (b:UInt8):Nat:=10*a+dv b
def v3v (acc:Nat) (l:Bs):Nat:=l.foldl stD acc
theorem z44 (acc:Nat):v3v acc []=acc:=by unfold v3v; rw [List.foldl_nil]
theorem z31 (acc:Nat) (b:UInt8) (l:Bs):v3v acc (b::l)=v3v (10*acc+dv b) l:=by unfold v3v; rw [List.foldl_cons]; unfold stD; exact Eq.refl _
theorem v3u (b:UInt8) (l:Bs):∀ acc:Nat,v3v acc (l++[b])=10*v3v acc l+dv b:=by
 induction l with
 |nil=>intro acc; rw [List.nil_append,z31,z44,z44]
 |cons c l ih=>intro acc; rw [eDg,z31,z31]; exact ih _
theorem v46 (l:Bs):∀ acc:Nat,acc≤v3v acc l:=by
 induction l with
 |nil=>intro acc; rw [z44]; exact eAk _
 |cons b l ih=>intro acc; have:=ih (10*acc+dv b); rw [z31]; omega
theorem v4c {u:Nat} (h:u<10):(UInt8.ofNat (48+u)).toNat=48+u:=by
 rw [UInt8.toNat_ofNat']; omega
theorem v4y {u:Nat} (h:u<10):dv (UInt8.ofNat (48+u))=u:=by
 unfold dv; rw [v4c h]; omega
theorem v4e {u:Nat} (h:¬ u<10):decDigits u=decDigits (u / 10)++[UInt8.ofNat (48+u % 10)]:=by
 rw [decDigits,dif_neg h]
theorem z57 (u:Nat):∀ b∈decDigits u,z59 b:=by
 induction u using Nat.strongRecOn with
 |_ u ih=>
  by_cases h:u<10
  ·rw [Lib.decDigits_one h]
   intro b hb
   simp only [eBe] at hb
   subst hb
   have:=v4c h
   unfold z59; omega
  ·rw [v4e h]
   intro b hb
   rcases eBj.1 hb with hb|hb
   ·exact ih (u / 10) (by omega) b hb
   ·simp only [eBe] at hb
    subst hb
    have:=v4c (u:=u % 10) (by omega)
    unfold z59; omega
theorem v4z (u:Nat):decDigits u≠[]:=by
 rw [decDigits]; split<;>simp
theorem v29 (u:Nat):v3v 0 (decDigits u)=u:=by
 induction u using Nat.strongRecOn with
 |_ u ih=>
  by_cases h:u<10
  ·rw [Lib.decDigits_one h]
   simp only [z31,z44]
   rw [v4y h]; omega
  ·rw [v4e h,v3u,ih (u / 10) (by omega),v4y (by omega)]
   omega
theorem v4d {u v:Nat} (h:decDigits u=decDigits v):u=v:=by rw [←v29 u,h,v29]
def MX:Int:=1099511627776
def Rng (n:Int):Prop:= -MX≤n∧n≤MX
instance (n:Int):Decidable (Rng n):=inferInstanceAs (Decidable (_∧_))
theorem v5j (u:Nat):itoa (u:Int)=decDigits u:=Lib.itoa_nonneg u
theorem v5k (u:Nat) (h:1≤u):itoa (-(u:Int))=45::decDigits u:=Lib.itoa_neg u h
theorem z37 (n:Int):(∃ u:Nat,n=(u:Int)∧itoa n=decDigits u)∨(∃ u:Nat,1≤u∧n= -(u:Int)∧itoa n=45::decDigits u):=by
 by_cases h:0≤n
 ·exact .inl ⟨n.toNat,by omega,by rw [←v5j]; congr 1; omega⟩
 ·exact .inr ⟨n.natAbs,by omega,by omega,by rw [←v5k _ (by omega)]; congr 1; omega⟩
theorem v3p {b:UInt8} (h:z59 b):b≠45:=by
 rintro rfl; exact absurd h (by unfold z59; decide)
theorem v4o {b:UInt8} (h:z59 b):b≠32:=by
 rintro rfl; exact absurd h (by unfold z59; decide)
theorem v4p {b:UInt8} (h:z59 b):b≠10:=by
 rintro rfl; exact absurd h (by unfold z59; decide)
theorem v3r (n:Int):∀ b∈itoa n,b=45∨z59 b:=by
 rcases z37 n with ⟨u,rfl,e⟩|⟨u,_,rfl,e⟩<;>rw [e]<;>intro b hb
 ·exact .inr (z57 u b hb)
 ·rcases eAz.1 hb with rfl|hb
  ·exact .inl rfl
  ·exact .inr (z57 u b hb)
theorem v27 {m n:Int} (h:itoa m=itoa n):m=n:=by
 rcases z37 m with ⟨u,rfl,e⟩|⟨u,_,rfl,e⟩<;>rcases z37 n with ⟨v,rfl,f⟩|⟨v,_,rfl,f⟩<;>rw [e,f] at h
 ·rw [v4d h]
 ·have:=z57 u 45 (by rw [h]; exact eBq)
  exact absurd rfl (v3p this)
 ·have:=z57 v 45 (by rw [←h]; exact eBq)
  exact absurd rfl (v3p this)
 ·rw [List.cons.injEq] at h; rw [v4d h.2]
theorem v20 (M:Nat) (hM:1844674407370955162≤M) (l:Bs):∀ acc:Nat,(∀ b∈l,z59 b)→v3v acc l<1844674407370955162→Lib.parseUintM M acc l= .ok (v3v acc l):=by
 induction l with
 |nil=>intro acc _ _; rw [z44]; rfl
 |cons b l ih=>
  intro acc hd h
  have hb:=hd b eBq
  have hge:=v46 l (10*acc+dv b)
  rw [z31] at h⊢
  have e:acc*10+(b.toNat - 48)=10*acc+dv b:=by unfold dv; rw [eCb]
  rw [Lib.parseUintM,if_pos (show 48≤b.toNat∧b.toNat≤57 from hb),e,if_neg (by omega),if_neg (by omega)]
  exact ih _ (fun c hc=>hd c (eCm _ hc)) h
theorem v21 {n:Int} (h:Rng n):Lib.parseIntB 64 (itoa n)= .ok n:=by
 unfold Rng MX at h
 have p63:(2:Nat) ^ (64 - 1)=9223372036854775808:=by decide
 have hu:∀ u:Nat,u≤1099511627776→Lib.parseUintB 64 (decDigits u)= .ok u:=fun u hu=>by
  unfold Lib.parseUintB
  rw [if_neg (v4z u),v20 _ (by decide) _ _ (z57 u) (by rw [v29]; omega),v29]
 rcases z37 n with ⟨u,rfl,e⟩|⟨u,h1,rfl,e⟩<;>rw [e]
 ·cases hd:decDigits u with
  |nil=>exact absurd hd (v4z u)
  |cons c r=>
   have hc:=z57 u c (by rw [hd]; exact eBq)
   unfold z59 at hc
   rw [Lib.parseIntB_plain 64 c r (by omega) (by omega), ←hd,hu u (by omega),Lib.signlessC,p63,if_neg (by omega)]
 ·rw [Lib.parseIntB_minus,hu u (by omega),Lib.signedC,p63,if_neg (by omega)]
def sps:Bs→List Bs
 |[]=>[[]]
 |b::l=>match sps l with
  |[]=>[]
  |w::ws=>if b=32 then []::w::ws else (b::w)::ws
theorem v3n:∀ l:Bs,sps l≠[]
 |[]=>by simp [sps]
 |b::l=>by
  have:=v3n l
  cases h:sps l with
  |nil=>exact absurd h this
  |cons w ws=>simp only [sps,h]; split<;>simp
theorem v24:∀ {w:Bs},(32:UInt8)∉w→sps w=[w]
 |[],_=>rfl
 |b::w,h=>by
  have h1:=v24 (w:=w) fun hh=>h (eCm _ hh)
  have h2:b≠32:=fun e=>h (by rw [e]; exact eBq)
  simp only [sps,h1,if_neg h2]
theorem v3h:∀ {w:Bs},(32:UInt8)∉w→∀ l,sps (w++32::l)=w::sps l
 |[],_,l=>by
  have:=v3n l
  cases h:sps l with
  |nil=>exact absurd h this
  |cons v vs=>simp [sps,h]
 |b::w,h,l=>by
  have h1:=v3h (w:=w) (fun hh=>h (eCm _ hh)) l
  have h2:b≠32:=fun e=>h (by rw [e]; exact eBq)
  simp only [eDg,sps,h1,if_neg h2]
def jn:List Bs→Bs
 |[]=>[]
 |w::ws=>w++(ws.map ((32:UInt8):: ·)).flatten
theorem v4n (w v:Bs) (ws:List Bs):jn (w::v::ws)=w++32::jn (v::ws):=by simp [jn]
theorem v5i:∀ ws:List Bs,Lib.join ws [32]=jn ws
 |[]=>Lib.join_nil _
 |w::ws=>by rw [Lib.join_cons,jn,Lib.joinTail]; rfl
theorem v4u:∀ {ws:List Bs},ws≠[]→(∀ w∈ws,(32:UInt8)∉w)→sps (jn ws)=ws
 |[],h,_=>absurd rfl h
 |[w],_,h=>by
  have:jn [w]=w:=by simp [jn]
  rw [this,v24 (h w eBq)]
 |w::v::ws,_,h=>by
  rw [v4n,v3h (h w eBq),v4u (by simp) fun x hx=>h x (eCm _ hx)]
theorem v5b {s:Bs} {i:Nat} (hi:i<s.length):Lib.occAt s [32] i=decide (s[i]?=some 32):=by
 rw [Lib.occAt,eDe hi,eAa hi]
 simp only [List.isPrefixOf,eCc,Option.some.injEq]
 rw [eCu,beq_iff_eq,decide_eq_true_eq]
 exact ⟨Eq.symm,Eq.symm⟩
theorem v5a {s:Bs}:Lib.occAt s [32] s.length=false:=by simp [Lib.occAt,List.isPrefixOf]
theorem v3w:∀ (n:Nat) (s:Bs),s.length≤n→Lib.splitK [32] 0 (Lib.count s [32]) s=sps s:=by
 intro n
 induction n with
 |zero=>
  intro s hs
  have:s=[]:=eBn.1 (by omega)
  subst this
  rw [Lib.count_miss (by rfl)]; rfl
 |succ n ih=>
  intro s hs
  rcases Lib.index_spec s [32] with ⟨h1,h2⟩|⟨i,h1,h2,h3,h4⟩
  ·rw [Lib.count_miss h1,Lib.splitK,v24]
   intro hm
   obtain ⟨j,hj,he⟩:=eDf.1 hm
   have:=h2 j (by omega)
   rw [v5b hj,eAa hj,he] at this
   simp at this
  ·have hil:i<s.length:=by
    rcases eBw i s.length with h|h
    ·exact h
    ·have:i=s.length:=by omega
     subst this
     rw [v5a] at h3; cases h3
   rw [v5b hil] at h3
   have h32:s[i]?=some 32:=by simpa using h3
   have hc:=Lib.count_hit (s:=s) (sub:=[32]) (by simp) h1
   rw [hc,Nat.add_comm,Lib.splitK]
   have hb:¬ (Lib.index s [32]== -1)=true:=by rw [h1,beq_iff_eq]; omega
   rw [if_neg hb,h1]
   have ed:s.drop i=32::s.drop (i+1):=by
    rw [eDe hil]
    rw [eAa hil] at h32
    rw [Option.some.inj h32]
   have et:s=s.take i++32::s.drop (i+1):=by
    conv=>lhs; rw [←List.take_append_drop i s,ed]
   have hno:(32:UInt8)∉s.take i:=by
    intro hm
    obtain ⟨j,hj,he⟩:=eDf.1 hm
    rw [eBv] at hj
    have h5:Lib.occAt s [32] j=false:=h4 j (by omega)
    rw [v5b (by omega),eAa (by omega)] at h5
    rw [List.getElem_take] at he
    rw [he] at h5; simp at h5
   simp only [eCh,eAt,List.length_singleton]
   rw [ih _ (by rw [eCx]; omega)]
   conv=>rhs; rw [et,v3h hno]
def lns:Bs→List Bs×Bs
 |[]=>([],[])
 |b::l=>if b=10 then ([]::(lns l).1,(lns l).2) else match lns l with
  |([],r)=>([],b::r)
  |(x::xs,r)=>((b::x)::xs,r)
theorem v26:∀ {w:Bs},(10:UInt8)∉w→∀ l,lns (w++10::l)=(w::(lns l).1,(lns l).2)
 |[],_,l=>by simp [lns]
 |b::w,h,l=>by
  have ih:=v26 (w:=w) (fun hh=>h (eCm _ hh)) l
  have hb:b≠10:=fun e=>h (by rw [e]; exact eBq)
  simp only [eDg,lns,if_neg hb,ih]
theorem v3o:∀ {w:Bs},(10:UInt8)∉w→lns w=([],w)
 |[],_=>rfl
 |b::w,h=>by
  have ih:=v3o (w:=w) fun hh=>h (eCm _ hh)
  have hb:b≠10:=fun e=>h (by rw [e]; exact eBq)
  simp only [lns,if_neg hb,ih]
theorem v32:∀ l:Bs,(((lns l).1.map (· ++[10])).flatten++(lns l).2)=l
 |[]=>rfl
 |b::l=>by
  have ih:=v32 l
  simp only [lns]
  split
  ·rename_i hb
   simp only [eDb,eDd,List.nil_append,eDg,eCg]
   rw [ih,hb]
  ·cases h:lns l with
   |mk xs r=>
    rw [h] at ih
    cases xs with
    |nil=>simp only [List.map_nil,List.flatten_nil,List.nil_append] at ih⊢; rw [ih]
    |cons x xs=>simp only [eDb,eDd,eDg] at ih⊢; rw [ih]
theorem v3c:∀ {ws:List Bs},(∀ w∈ws,(10:UInt8)∉w)→lns ((ws.map (· ++[10])).flatten)=(ws,[])
 |[],_=>rfl
 |w::ws,h=>by
  rw [eDb,eDd,eCg]
  have:=v26 (h w eBq) ((ws.map (· ++[10])).flatten)
  rw [List.singleton_append,this,v3c fun x hx=>h x (eCm _ hx)]
theorem v5c {s:Bs} {i:Nat} (hi:i<s.length):Lib.occAt s [10] i=decide (s[i]?=some 10):=by
 rw [Lib.occAt,eDe hi,eAa hi]
 simp only [List.isPrefixOf,eCc,Option.some.injEq]
 rw [eCu,beq_iff_eq,decide_eq_true_eq]
 exact ⟨Eq.symm,Eq.symm⟩
theorem v6k (s:Bs):(∃ w r,s=w++10::r∧(10:UInt8)∉w∧Lib.cut s [10]=(w,r,true))∨((10:UInt8)∉s∧Lib.cut s [10]=(s,[],false)):=by
 rcases Lib.index_spec s [10] with ⟨h1,h2⟩|⟨i,h1,h2,h3,h4⟩
 ·right
  refine ⟨fun hm=>?_,by unfold Lib.cut; rw [h1,if_neg (by omega)]⟩
  obtain ⟨j,hj,he⟩:=eDf.1 hm
  have:=h2 j (by omega)
  rw [v5c hj,eAa hj,he] at this
  simp at this
 ·left
  have hil:i<s.length:=by
   rcases eBw i s.length with h|h
   ·exact h
   ·have:i=s.length:=by omega
    subst this
    have:Lib.occAt s [10] s.length=false:=by simp [Lib.occAt,List.isPrefixOf]
    rw [this] at h3; cases h3
  rw [v5c hil] at h3
  have h10:s[i]?=some 10:=by simpa using h3
  have ed:s.drop i=10::s.drop (i+1):=by
   rw [eDe hil]
   rw [eAa hil] at h10
   rw [Option.some.inj h10]
  refine ⟨s.take i,s.drop (i+1),by conv=>lhs; rw [←List.take_append_drop i s,ed],fun hm=>?_,?_⟩
  ·obtain ⟨j,hj,he⟩:=eDf.1 hm
   rw [eBv] at hj
   have h5:Lib.occAt s [10] j=false:=h4 j (by omega)
   rw [v5c (by omega),eAa (by omega)] at h5
   rw [List.getElem_take] at he
   rw [he] at h5; simp at h5
  ·unfold Lib.cut
   rw [h1,if_pos (by omega)]
   simp
theorem v5v (w:Bs):Lib.trimSuffix (w++[10]) [10]=w:=by
 unfold Lib.trimSuffix Lib.hasSuffix
 have:List.isSuffixOf [10] (w++[(10:UInt8)])=true:=by
  rw [List.isSuffixOf_iff_suffix]; exact List.suffix_append _ _
 rw [if_pos this]
 simp
def kwL (k:Int):Bs:=if k=1 then [101,110,116,101,114] else if k=2 then [98,117,114,110] else if k=3 then [99,111,109,112,97,114,101] else if k=4 then [114,101,112,108,97,99,101] else if k=5 then [111,117,116] else if k=6 then [99,108,97,105,109] else []
def wdC (c:Cd):List Bs:=kwL c.k::itoa c.n::(c.t.map itoa++[itoa c.a])
def CdL (c:Cd):Prop:=z3a c.k≠0∧c.t.length=z3a c.k∧Rng c.n∧(∀ x∈c.t,Rng x)∧Rng c.a
theorem z32 {k:Int} (h:z3a k≠0):k=1∨k=2∨k=3∨k=4∨k=5∨k=6:=by
 rcases y35 h with ⟨h|h|h,_⟩|⟨h|h,_⟩|⟨h,_⟩<;>simp [h]
theorem v36 {k j:Int} (hk:z3a k≠0) (hj:z3a j≠0) (h:kwL k=kwL j):k=j:=by
 rcases z32 hk with rfl|rfl|rfl|rfl|rfl|rfl<;>rcases z32 hj with rfl|rfl|rfl|rfl|rfl|rfl<;>first|rfl|(exact absurd h (by decide))
theorem v5z {k:Int} (hk:z3a k≠0):(32:UInt8)∉kwL k∧(10:UInt8)∉kwL k:=by
 rcases z32 hk with rfl|rfl|rfl|rfl|rfl|rfl<;>decide
theorem v3k (n:Int):(32:UInt8)∉itoa n∧(10:UInt8)∉itoa n:=by
 refine ⟨fun h=>?_,fun h=>?_⟩<;>rcases v3r n _ h with h|h
 ·exact absurd h (by decide)
 ·exact absurd rfl (v4o h)
 ·exact absurd h (by decide)
 ·exact absurd rfl (v4p h)
theorem v4t {c:Cd} (hk:z3a c.k≠0):∀ w∈wdC c,(32:UInt8)∉w∧(10:UInt8)∉w:=by
 intro w hw
 unfold wdC at hw
 rcases eAz.1 hw with rfl|hw
 ·exact v5z hk
 ·rcases eAz.1 hw with rfl|hw
  ·exact v3k _
  ·rcases eBj.1 hw with hw|hw
   ·obtain ⟨x,_,rfl⟩:=eBb.1 hw; exact v3k _
   ·simp only [eBe] at hw; subst hw; exact v3k _
theorem v5e {l m:List Int} (h:l.map itoa=m.map itoa):l=m:=by
 induction l generalizing m with
 |nil=>cases m with
  |nil=>rfl
  |cons y m=>simp at h
 |cons x l ih=>cases m with
  |nil=>simp at h
  |cons y m=>
   simp only [eDb,List.cons.injEq] at h
   rw [v27 h.1,ih h.2]
theorem v45 {c d:Cd} (hc:z3a c.k≠0) (hd:z3a d.k≠0) (h:wdC c=wdC d):c=d:=by
 unfold wdC at h
 simp only [List.cons.injEq] at h
 obtain ⟨h1,h2,h3⟩:=h
 have h4:=List.append_inj' h3 rfl
 have e1:=v36 hc hd h1
 have e2:=v27 h2
 have e3:=v5e h4.1
 have e4:=v27 (List.cons.inj h4.2).1
 cases c; cases d; simp_all
def lnC (c:Cd):Bs:=jn (wdC c)
theorem v3j {c:Cd} (hc:z3a c.k≠0):sps (lnC c)=wdC c:=v4u (by simp [wdC]) fun w hw=>(v4t hc w hw).1
theorem v5g {c d:Cd} (hc:z3a c.k≠0) (hd:z3a d.k≠0) (h:lnC c=lnC d):c=d:=v45 hc hd (by rw [←v3j hc,h,v3j hd])
theorem v4l {c:Cd} (hc:z3a c.k≠0):(10:UInt8)∉lnC c:=by
 unfold lnC
 have h:=v4t hc
 cases hw:wdC c with
 |nil=>simp [jn]
 |cons w ws=>
  rw [hw] at h
  simp only [jn,eBj,eCj,eBb,not_or]
  refine ⟨(h w eBq).2,?_⟩
  rintro ⟨l,⟨v,hv,rfl⟩,hl⟩
  rcases eAz.1 hl with hl|hl
  ·exact absurd hl (by decide)
  ·exact (h v (eCm _ hv)).2 hl
open Classical in
noncomputable def cdL (w:Bs):Option Cd:=if h:∃ c,CdL c∧lnC c=w then some h.choose else none
theorem z41 {w:Bs} {c:Cd}:cdL w=some c↔CdL c∧lnC c=w:=by
 unfold cdL
 constructor
 ·intro h
  split at h
  ·rename_i hh
   cases h
   exact hh.choose_spec
  ·cases h
 ·rintro ⟨h1,h2⟩
  have hh:∃ c,CdL c∧lnC c=w:=⟨c,h1,h2⟩
  rw [dif_pos hh]
  have:=hh.choose_spec
  rw [v5g this.1.1 h1.1 (this.2.trans h2.symm)]
theorem v3a {w:Bs}:cdL w=none↔∀ c,CdL c→lnC c≠w:=by
 constructor
 ·intro h c h1 h2
  have:=z41.2 ⟨h1,h2⟩
  rw [h] at this; cases this
 ·intro h
  cases hc:cdL w with
  |none=>rfl
  |some c=>obtain ⟨h1,h2⟩:=z41.1 hc; exact absurd h2 (h c h1)
noncomputable def v40:List Bs→Option (List Cd)
 |[]=>some []
 |w::ws=>match cdL w,v40 ws with
  |some c,some l=>some (c::l)
  |_,_=>none
noncomputable def z26 (s:Bs):Option (List Cd):=if (lns s).2=[] then v40 (lns s).1 else none
def z23 (l:List Cd):Bs:=(l.map fun c=>lnC c++[10]).flatten
theorem z51:∀ {ws:List Bs} {l:List Cd},v40 ws=some l↔ws=l.map lnC∧∀ c∈l,CdL c
 |[],l=>by
  simp only [v40,Option.some.injEq]
  constructor
  ·rintro rfl; exact ⟨rfl,by simp⟩
  ·rintro ⟨h,_⟩
   cases l with
   |nil=>rfl
   |cons c l=>simp at h
 |w::ws,l=>by
  simp only [v40]
  constructor
  ·intro h
   split at h
   ·rename_i c l' h1 h2
    cases h
    obtain ⟨h3,h4⟩:=z41.1 h1
    obtain ⟨h5,h6⟩:=z51.1 h2
    refine ⟨by rw [eDb, ←h5,h4],fun d hd=>?_⟩
    rcases eAz.1 hd with rfl|hd
    ·exact h3
    ·exact h6 d hd
   ·cases h
  ·rintro ⟨h1,h2⟩
   cases l with
   |nil=>simp at h1
   |cons c l=>
    simp only [eDb,List.cons.injEq] at h1
    rw [z41.2 ⟨h2 c eBq,h1.1.symm⟩,z51.2 ⟨h1.2,fun d hd=>h2 d (eCm _ hd)⟩]
theorem z35 {s:Bs} {l:List Cd}:z26 s=some l↔s=z23 l∧∀ c∈l,CdL c:=by
 unfold z26
 constructor
 ·intro h
  split at h
  ·rename_i h0
   obtain ⟨h1,h2⟩:=z51.1 h
   refine ⟨?_,h2⟩
   have:=v32 s
   rw [h0,h1,eCn,List.map_map] at this
   exact this.symm
  ·cases h
 ·rintro ⟨h1,h2⟩
  have e:z23 l=((l.map lnC).map (· ++[10])).flatten:=by rw [List.map_map]; rfl
  have h3:=v3c (ws:=l.map lnC) fun w hw=>by
   obtain ⟨c,hc,rfl⟩:=eBb.1 hw
   exact v4l (h2 c hc).1
  rw [←e, ←h1] at h3
  rw [h3,if_pos rfl]
  exact z51.2 ⟨rfl,h2⟩
end Go.Am.D12
end
section
namespace Go.Am
open D12
variable {fl fl':List Int→Bool}
def mkB (l:Bs):ByteArray:=⟨l.toArray⟩
theorem z22 (l:Bs):(mkB l).data.toList=l:=by simp [mkB]
theorem v30 (s:ByteArray):mkB s.data.toList=s:=by cases s; simp [mkB]
theorem z36 (l:Bs):(mkB l).size=l.length:=by rw [Lib.size_eq,z22]
theorem v3i (l m:Bs):mkB l++mkB m=mkB (l++m):=by
 rw [←v30 (mkB l++mkB m),ByteArray.data_append,Array.toList_append,z22,z22]
theorem z46 (l m:Bs):std.scat (mkB l) (mkB m)=mkB (l++m):=v3i l m
theorem z21 (l:Bs):std.slen (mkB l)=l.length:=z36 l
theorem z20 (l m:Bs):std.strEq (mkB l) (mkB m)=decide (l=m):=by
 show ((mkB l).toList==(mkB m).toList)=_
 rw [Lib.toList_data,Lib.toList_data,z22,z22,eCu,beq_iff_eq,decide_eq_true_eq]
theorem v35 {k:Int} (h:z3a k≠0):z7k k=mkB (kwL k):=by
 rcases z32 h with rfl|rfl|rfl|rfl|rfl|rfl<;>rfl
theorem v3d (n:Int):z3i n=mkB (Lib.itoa n):=rfl
theorem v5q:ByteArray.mk #[10]=mkB [10]:=rfl
theorem mk0:ByteArray.mk #[]=mkB []:=rfl
def v4g (c:Cd):Prop:=(0≤c.n∧c.n≤MX)∧(∀ x∈c.t,0≤x∧x≤MX)∧(0≤c.a∧c.a≤MX)
theorem z70 {c:Cd} (h:z3d c=0):v4g c∧CdL c:=by
 obtain ⟨h1,h2,h3,h4,h5,h6⟩:=z85.1 h
 unfold z6x at h1 h4
 have ha:0≤c.a∧c.a≤1000000:=by unfold w1p at h6; omega
 unfold v4g CdL Rng MX
 exact ⟨⟨⟨by omega,by omega⟩,fun x hx=>by have:=h4 x hx; omega,by omega⟩,h2,h3,⟨by omega,by omega⟩,fun x hx=>by have:=h4 x hx; omega,by omega,by omega⟩
theorem z53 {n:Int} (h: -MX≤n∧n≤MX):(Lib.itoa n).length≤21:=by
 unfold MX at h
 exact Go.Lib.itoa_length_le n (by omega) (by omega)
theorem v4x (k:Int):(kwL k).length≤7:=by
 unfold kwL; repeat' split
 all_goals simp
def lnP (c:Cd) (i:Nat):Bs:=kwL c.k++[32]++Lib.itoa c.n++((c.t.take i).map fun x=>(32:UInt8)::Lib.itoa x).flatten
theorem v33 (c:Cd):lnC c=lnP c c.t.length++[32]++Lib.itoa c.a:=by
 unfold lnC wdC lnP
 rw [List.take_length]
 simp [jn,List.map_map,Function.comp_def]
theorem v5f {c:Cd} (hs:v4g c) (i:Nat):(lnP c i).length≤40+22*i:=by
 have hn:=z53 (n:=c.n) (by have:=hs.1; unfold MX at*; omega)
 have hk:=v4x c.k
 have:∀ l:List Int,(∀ x∈l,0≤x∧x≤MX)→((l.map fun x=>(32:UInt8)::Lib.itoa x).flatten).length≤22*l.length:=by
  intro l
  induction l with
  |nil=>intro _; simp
  |cons x l ih=>
   intro h
   have h1:=ih fun y hy=>h y (eCm _ hy)
   have h2:=z53 (n:=x) (by have:=h x eBq; unfold MX at*; omega)
   simp only [eDb,eDd,eBu,eBi]
   omega
 have h3:=this (c.t.take i) fun x hx=>hs.2.1 x (List.mem_of_mem_take hx)
 have h4:(c.t.take i).length≤i:=by rw [eBv]; omega
 unfold lnP
 simp only [eBu,List.length_singleton]
 omega
theorem v34 {c:Cd} (h:z3d c=0):(lnC c).length≤200:=by
 obtain ⟨hs,hk,ht,_⟩:=z70 h
 have ht3:c.t.length≤3:=by
  rw [ht]; unfold z3a; repeat' split
  all_goals omega
 have hl:=v5f hs c.t.length
 have hal:=z53 (n:=c.a) (by have:=hs.2.2; unfold MX at*; omega)
 rw [v33]
 simp only [eBu,List.length_singleton]
 omega
theorem v4a {l:List Cd} (h:∀ c∈l,z3d c=0):(z23 l).length≤201*l.length:=by
 induction l with
 |nil=>simp [z23]
 |cons c l ih=>
  have h1:=ih fun d hd=>h d (eCm _ hd)
  have h2:=v34 (h c eBq)
  unfold z23 at*
  simp only [eDb,eDd,eBu,eBi,List.length_nil]
  omega
end Go.Am
end
section
namespace Go.Am
open D12
variable {fl fl':List Int→Bool}
def eSt (s:ByteArray):List D:=[.str s]
def z75 (W:List Bs):List (List D):=W.map fun w=>eSt (mkB w)
theorem z28 (s:ByteArray):z3k [CK.str] (eSt s)=true:=rfl
theorem z80 (s:ByteArray):dS ((eSt s)[0]?.getD D.nilp)=s:=rfl
theorem rowW {W:List Bs} {i:Nat} {w:Bs} (h:W[i]?=some w):(z75 W)[i]?=some (eSt (mkB w)):=by
 unfold z75; rw [eAg,h]; rfl
theorem z72 (W:List Bs):(z75 W).length=W.length:=by simp [z75]
theorem z33 (es:List (List D)) (i j:Nat):std.rdS es i j=dS (rdD es i j):=rfl
theorem v3x (w:Bs) (hl:w.length≤1000000):v12 std (mkB w,(ByteArray.mk #[32],()))=some (z75 (sps w),()):=by
 have h1:(z9k (mkB w) (ByteArray.mk #[32])).map (·.data.toList)=sps w:=by
  unfold z9k
  rw [Lib.splitB_data,z22]
  show Lib.splitK [32] 0 (Lib.count (mkB w).data.toList [32]) w=_
  rw [z22]
  exact v3w _ w (eAk _)
 have h2:z27 (z9k (mkB w) (ByteArray.mk #[32]))=z75 (sps w):=by
  rw [←h1]
  unfold z27 z75
  rw [List.map_map]
  refine List.map_congr_left fun s _=>?_
  show [D.str s]=[D.str (mkB s.data.toList)]
  rw [v30]
 unfold v12
 have hs:(mkB w).size≤1000000:=by rw [z36]; exact hl
 have hb:(Nat.ble (mkB w).size 1000000&&Nat.ble 1 (ByteArray.mk #[32]).size)=true:=by
  rw [eBg hs]; rfl
 simp only [hb,cond_true,h2]
theorem v4k (w:Bs) (hl:w.length≤999999):v11 std (mkB (w++[10]),(ByteArray.mk #[10],()))=some (mkB w,()):=by
 unfold v11 w6l
 have hs:(mkB (w++[10])).size≤1000000:=by rw [z36]; simp; omega
 rw [eBg hs,cond_true,z22]
 have:(ByteArray.mk #[10]).data.toList=[(10:UInt8)]:=rfl
 rw [this,v5v]
 rfl
theorem z76 {c:Cd} (hk:z3a c.k≠0):z7z c=mkB (lnC c++[10]):=by
 have e1:(y37 c).map (·.data.toList)=wdC c:=by
  unfold y37 wdC
  simp only [eDb,List.map_append,List.map_map,List.map_nil,v35 hk,z22,v3d,eDg]
  simp [v3d,z22,Function.comp_def]
 unfold z7z nl z4k
 rw [e1]
 have:sp.data.toList=[(32:UInt8)]:=rfl
 rw [this,v5i,v5q]
 exact v3i _ _
def v3f (W:List Bs) (k:Int):Prop:=kwL k=W.headD []∧W.length=z3a k+3
def v6m (W:List Bs) (K:Int):Prop:=(K=0∧∀ k,z3a k≠0→¬ v3f W k)∨(z3a K≠0∧v3f W K)
theorem v5h (k:Int):z7k k=mkB (kwL k):=by
 unfold z7k kwL
 by_cases h1:k=1
 ·rw [if_pos h1,if_pos h1]; rfl
 by_cases h2:k=2
 ·rw [if_neg h1,if_neg h1,if_pos h2,if_pos h2]; rfl
 by_cases h3:k=3
 ·rw [if_neg h1,if_neg h1,if_neg h2,if_neg h2,if_pos h3,if_pos h3]; rfl
 by_cases h4:k=4
 ·rw [if_neg h1,if_neg h1,if_neg h2,if_neg h2,if_neg h3,if_neg h3,if_pos h4,if_pos h4]; rfl
 by_cases h5:k=5
 ·rw [if_neg h1,if_neg h1,if_neg h2,if_neg h2,if_neg h3,if_neg h3,if_neg h4,if_neg h4,if_pos h5,if_pos h5]; rfl
 by_cases h6:k=6
 ·rw [if_neg h1,if_neg h1,if_neg h2,if_neg h2,if_neg h3,if_neg h3,if_neg h4,if_neg h4,if_neg h5,if_neg h5,if_pos h6,if_pos h6]; rfl
 ·rw [if_neg h1,if_neg h1,if_neg h2,if_neg h2,if_neg h3,if_neg h3,if_neg h4,if_neg h4,if_neg h5,if_neg h5,if_neg h6,if_neg h6]; rfl
theorem v31 {i:Nat} (h:i<6):z3a ((i+1:Nat):Int)≠0:=by
 have:i=0∨i=1∨i=2∨i=3∨i=4∨i=5:=by omega
 rcases this with rfl|rfl|rfl|rfl|rfl|rfl<;>decide
theorem v25 (k:Int):z3a k≤3:=by
 unfold z3a; repeat' split
 all_goals omega
theorem v5x {k:Int} (h:z3a k≠0):∃ j:Nat,j<6∧k=((j+1:Nat):Int):=by
 rcases z32 h with rfl|rfl|rfl|rfl|rfl|rfl
 ·exact ⟨0,by omega,rfl⟩
 ·exact ⟨1,by omega,rfl⟩
 ·exact ⟨2,by omega,rfl⟩
 ·exact ⟨3,by omega,rfl⟩
 ·exact ⟨4,by omega,rfl⟩
 ·exact ⟨5,by omega,rfl⟩
def v4h (m:Int→Prop) (K:Int) (i:Nat):Prop:=(K=0∧∀ j:Nat,j<i→¬ m ((j+1:Nat):Int))∨(∃ j:Nat,j<i∧K=((j+1:Nat):Int)∧m K)
theorem v38 {m:Int→Prop} {i:Nat} (h:m ((i+1:Nat):Int)):v4h m ((i+1:Nat):Int) (i+1):= .inr ⟨i,by omega,rfl,h⟩
theorem v22 {m:Int→Prop} {K:Int} {i:Nat} (hI:v4h m K i) (h:¬ m ((i+1:Nat):Int)):v4h m K (i+1):=by
 rcases hI with ⟨rfl,hn⟩|⟨j,hj,h1,h2⟩
 ·refine .inl ⟨rfl,fun j hj=>?_⟩
  by_cases e:j=i
  ·subst e; exact h
  ·exact hn j (by omega)
 ·exact .inr ⟨j,by omega,h1,h2⟩
theorem v4r (W:List Bs) (hW:W≠[]) (hl:W.length≤1000000) (s:ByteArray):
  ∃ K:Int,z5r (v3m std) ((0:Int),((0:Int),((0:Int),((0:Int),((0:Int),((0:Int),(s,(z75 W,((1:Int),())))))))))=some ((0:Int),((0:Int),((0:Int),((0:Int),(K,((0:Int),(s,(z75 W,()))))))))∧v6m W K:=by
 obtain ⟨w0,W',rfl⟩:=List.exists_cons_of_ne_nil hW
 have hr0:(z75 (w0::W'))[0]?=some (eSt (mkB w0)):=rfl
 have key:=y6h (b:=v3m std) 6 (fun (K:Int) i=>((0:Int),((0:Int),((0:Int),((0:Int),(K,((0:Int),(s,(z75 (w0::W'),(((i+1:Nat):Int),()))))))))))
  (fun K i=>v4h (v3f (w0::W')) K i) (fun r=>∃ K:Int,r=((0:Int),((0:Int),((0:Int),((0:Int),(K,((0:Int),(s,(z75 (w0::W'),()))))))))∧v4h (v3f (w0::W')) K 6)
  (fun K i hi hI=> .inl (by
   have hw:IntKind.i64.wrap (((i+1:Nat):Int)+1)=((i+1+1:Nat):Int):=w0a (by omega)
   have hle:((i+1:Nat):Int)≤6:=by omega
   have h55:=w3p ((i+1:Nat):Int)
   have hk:=v5h ((i+1:Nat):Int)
   rw [hk] at h55
   have hen:(z75 (w0::W')).length=(w0::W').length:=z72 _
   have hmt:=v25 ((i+1:Nat):Int)
   have hw3:IntKind.i64.wrap ((z3a ((i+1:Nat):Int):Int)+3)=((z3a ((i+1:Nat):Int)+3:Nat):Int):=by rw [w21 _ (by omega) (by omega)]; omega
   by_cases h1:kwL ((i+1:Nat):Int)=w0
   ·by_cases h2:(w0::W').length=z3a ((i+1:Nat):Int)+3
    ·refine ⟨((i+1:Nat):Int),?_,v38 ⟨h1,h2⟩⟩
     have h2':((w0::W').length:Int)=((z3a ((i+1:Nat):Int)+3:Nat):Int):=by omega
     generalize z75 (w0::W')=E at*
     generalize (w0::W').length=n at*
     simp only [v3m,z2d,z2e,z4b,Int.reduceLT,Int.reduceEq,Int.reduceLE,hle,hw,h55,hr0,z28,z80,z33,z20,h1,hen,hw3,h2',Int.reduceToNat,if_true]
    ·refine ⟨K,?_,v22 hI fun h=>h2 h.2⟩
     have h2':¬ ((w0::W').length:Int)=((z3a ((i+1:Nat):Int)+3:Nat):Int):=by omega
     generalize z75 (w0::W')=E at*
     generalize (w0::W').length=n at*
     simp only [v3m,z2d,z2e,z4b,Int.reduceLT,Int.reduceEq,Int.reduceLE,hle,hw,h55,hr0,z28,z80,z33,z20,h1,hen,hw3,h2',Int.reduceToNat,if_true,if_false,eAi]
   ·refine ⟨K,?_,v22 hI fun h=>h1 h.1⟩
    generalize z75 (w0::W')=E at*
    simp only [v3m,z2d,z2e,z4b,Int.reduceLT,Int.reduceEq,Int.reduceLE,hle,hw,h55,hr0,z28,z80,z33,z20,h1,Int.reduceToNat,if_true,if_false,eAi]))
  (fun K hI=>⟨_,by
   have hno:¬ ((6+1:Nat):Int)≤6:=by omega
   simp only [v3m,z2d,z2e,hno,if_false,z4b,Int.reduceLT,Int.reduceEq,Int.reduceLE],K,rfl,hI⟩) 0 0 (eAv _) (.inl ⟨rfl,fun j hj=>by omega⟩)
 obtain ⟨r,h1,K,rfl,h2⟩:=key
 refine ⟨K,h1,?_⟩
 rcases h2 with ⟨rfl,h⟩|⟨j,hj,rfl,hm⟩
 ·refine .inl ⟨rfl,fun k hk hm=>?_⟩
  obtain ⟨j,hj,rfl⟩:=v5x hk
  exact h j hj hm
 ·exact .inr ⟨v31 hj,hm⟩
def v5s (w:Bs) (v:Int):Prop:=Lib.parseIntB 64 w= .ok v∧Rng v
theorem v4q (X:List Bs) (hl:X.length≤100000) (hx:∀ x∈X,x.length≤1000000) (K:Int) (s:ByteArray):
  ∃ r,z5r (v3e std) ([],((0:Int),((0:Int),((0:Int),((0:Int),(K,((0:Int),(s,(z75 X,((X.length:Int),((0:Int),())))))))))))=some r∧
   ((r= .inl ((0:Int),(K,((0:Int),(false,()))))∧∃ x∈X,∀ v,¬ v5s x v)∨∃ ns:List Int,r= .inr (z1a ns,((0:Int),((0:Int),((0:Int),((0:Int),(K,((0:Int),(s,()))))))))∧ns.length=X.length∧∀ (i:Nat) (x:Bs) (v:Int),X[i]?=some x→ns[i]?=some v→v5s x v):=by
 have key:=y6h (b:=v3e std) X.length (fun (ns:List Int) i=>(z1a ns,((0:Int),((0:Int),((0:Int),((0:Int),(K,((0:Int),(s,(z75 X,((X.length:Int),((i:Int),()))))))))))))
  (fun ns i=>ns.length=i∧∀ (j:Nat) (x:Bs) (v:Int),X[j]?=some x→ns[j]?=some v→v5s x v)
  (fun r=>(r= .inl ((0:Int),(K,((0:Int),(false,()))))∧∃ x∈X,∀ v,¬ v5s x v)∨∃ ns:List Int,r= .inr (z1a ns,((0:Int),((0:Int),((0:Int),((0:Int),(K,((0:Int),(s,()))))))))∧ns.length=X.length∧∀ (i:Nat) (x:Bs) (v:Int),X[i]?=some x→ns[i]?=some v→v5s x v)
  (fun ns i hi hI=>by
   obtain ⟨hnl,hI⟩:=hI
   obtain ⟨x,hxi⟩:=z1v hi
   obtain ⟨hw,h0⟩:=stp i (by omega)
   have hlt:(i:Int)<X.length:=by omega
   have hrow:=rowW hxi
   have hxm:=eAu hxi
   have hsz:Nat.ble (mkB x).size 1000000=true:=eBg (by rw [z36]; exact hx x hxm)
   have h127:v10 std (mkB x,(10,(64,())))=match Lib.parseIntB 64 x with| .ok v=>some (.inl (v,()))| .range=>some (.inr (Lib.intSat 64 x,()))|_=>some (.inr (0,())):=by
    unfold v10
    simp only [hsz,z22]
    rfl
   cases hp:Lib.parseIntB 64 x with
   |ok v=>
    simp only [hp] at h127
    have h56:=x9z (-1099511627776) 1099511627776 [v] (by simp)
    have e56:z1a [v]=[[D.int .i64 v]]:=rfl
    rw [e56] at h56
    by_cases hr:Rng v
    ·left
     have hq:(!([v].any fun n=>decide (n< -1099511627776∨n>1099511627776)))=true:=by unfold Rng MX at hr; simp; omega
     rw [hq] at h56
     refine ⟨ns++[v],?_,by simp [hnl],fun j y u hy hu=>?_⟩
     ·have e1:ns.length+1≤1000000:=by omega
      have e5:(ns.map eI).take ns.length=ns.map eI:=eDa (by simp)
      simp only [v3e,z2d,z2e,z1a,z4b,Int.reduceLT,Int.reduceEq,Int.reduceLE,hlt,h0,hw,hrow,z28,z80,z33,h127,h56,e1,e5,eAk,eDc]
      simp [eI,e1,e5]
      simpa using hw
     ·by_cases e:j<ns.length
      ·rw [eBz e] at hu
       exact hI j y u hy hu
      ·rw [eCv (by omega)] at hu
       have:j - ns.length=0:=by
        rcases Nat.eq_zero_or_pos (j - ns.length) with h|h
        ·exact h
        ·rw [eCt (by simp; omega)] at hu; cases hu
       rw [this] at hu
       cases hu
       have:j=i:=by omega
       subst this
       rw [hxi] at hy; cases hy
       exact ⟨hp,hr⟩
    ·right
     have hq:(!([v].any fun n=>decide (n< -1099511627776∨n>1099511627776)))=false:=by unfold Rng MX at hr; simp; omega
     rw [hq] at h56
     refine ⟨_,by simp only [v3e,z2d,z2e,z4b,Int.reduceLT,Int.reduceEq,Int.reduceLE,hlt,h0,hw,hrow,z28,z80,z33,h127,h56,if_true,if_false,eAi], .inl ⟨rfl,x,hxm,fun u hu=>?_⟩⟩
     have:=hu.1
     rw [hp] at this; cases this
     exact hr hu.2
   |range=>
    right
    simp only [hp] at h127
    refine ⟨_,by simp only [v3e,z2d,z2e,z4b,Int.reduceLT,Int.reduceEq,Int.reduceLE,hlt,h0,hw,hrow,z28,z80,z33,h127,if_true,if_false,eAi], .inl ⟨rfl,x,hxm,fun u hu=>?_⟩⟩
    have:=hu.1
    rw [hp] at this; cases this
   | «syntax» =>
    right
    simp only [hp] at h127
    refine ⟨_,by simp only [v3e,z2d,z2e,z4b,Int.reduceLT,Int.reduceEq,Int.reduceLE,hlt,h0,hw,hrow,z28,z80,z33,h127,if_true,if_false,eAi], .inl ⟨rfl,x,hxm,fun u hu=>?_⟩⟩
    have:=hu.1
    rw [hp] at this; cases this)
  (fun ns hI=>by
   have hno:¬ (X.length:Int)<X.length:=by omega
   exact ⟨_,by simp only [v3e,z2d,z2e,hno,if_false,z4b,Int.reduceLT,Int.reduceEq,Int.reduceLE], .inr ⟨ns,rfl,hI.1,hI.2⟩⟩) [] 0 (eAv _) ⟨rfl,fun j x v _ h=>by simp at h⟩
 obtain ⟨r,h1,h2⟩:=key
 exact ⟨r,h1,h2⟩
theorem v47 (w:Bs):(sps w).length≤w.length+1∧∀ x∈sps w,x.length≤w.length:=by
 induction w with
 |nil=>simp [sps]
 |cons b l ih=>
  cases h:sps l with
  |nil=>exact absurd h (v3n l)
  |cons v vs=>
   rw [h] at ih
   simp only [sps,h]
   split
   ·refine ⟨by have:=ih.1; simp only [eBi] at*; omega,fun x hx=>?_⟩
    rcases eAz.1 hx with rfl|hx
    ·simp
    ·have:=ih.2 x hx; simp only [eBi]; omega
   ·refine ⟨by have:=ih.1; simp only [eBi] at*; omega,fun x hx=>?_⟩
    rcases eAz.1 hx with rfl|hx
    ·have:=ih.2 v eBq; simp only [eBi]; omega
    ·have:=ih.2 x (eCm _ hx); simp only [eBi]; omega
theorem ends {ns:List Int} {m:Nat} (h:ns.length=m+2):∃ n t a,ns=n::(t++[a])∧t.length=m:=by
 cases ns with
 |nil=>simp at h
 |cons n r=>
  have hne:r≠[]:=by intro e; rw [e] at h; simp at h
  exact ⟨n,r.dropLast,r.getLast hne,by rw [List.dropLast_concat_getLast hne],by simp at h⊢; omega⟩
theorem v5d {c:Cd} (hc:CdL c) {w0:Bs} {X:List Bs} (h:wdC c=w0::X) {ns:List Int} (hl:ns.length=X.length) (hn:∀ (i:Nat) (x:Bs) (v:Int),X[i]?=some x→ns[i]?=some v→v5s x v):ns=c.n::(c.t++[c.a]):=by
 have hX:X=(c.n::(c.t++[c.a])).map Lib.itoa:=by
  unfold wdC at h
  simp only [List.cons.injEq] at h
  rw [←h.2]; simp
 have hr:∀ v∈c.n::(c.t++[c.a]),Rng v:=by
  intro v hv
  rcases eAz.1 hv with rfl|hv
  ·exact hc.2.2.1
  ·rcases eBj.1 hv with hv|hv
   ·exact hc.2.2.2.1 v hv
   ·simp only [eBe] at hv; subst hv; exact hc.2.2.2.2
 generalize c.n::(c.t++[c.a])=L at*
 subst hX
 rw [eBt] at hl
 refine List.ext_getElem hl fun i h1 h2=>?_
 have h3:=hn i (Lib.itoa L[i]) ns[i] (by rw [eAg,eAa h2]; rfl) (eAa h1)
 have h4:=v21 (hr L[i] (eCp h2))
 have h5:=h3.1
 rw [h4] at h5
 injection h5 with h5
 exact h5.symm
theorem v42 (w:Bs) (hl:w.length≤99990):∃ (n k:Int) (t:List Int) (a:Int) (ok:Bool),G88 std (mkB (w++[10]),())=some (n,(k,(z1a t,(a,(ok,())))))∧(ok=true→cdL w=some ⟨n,k,t,a⟩)∧(ok=false→cdL w=none):=by
 have h126:=v4k w (by omega)
 have h125:=v3x w (by omega)
 obtain ⟨hsl,hsx⟩:=v47 w
 have hne:=v3n w
 have hcd:∀ c,CdL c→lnC c=w→sps w=wdC c:=fun c h1 h2=>by rw [←h2,v3j h1.1]
 generalize hW:sps w=W at*
 obtain ⟨K,k1,hK⟩:=v4r W hne (by omega) (mkB (w++[10]))
 have hmatch:∀ c,CdL c→lnC c=w→v3f W c.k:=fun c h1 h2=>by
  have:=hcd c h1 h2
  rw [this]
  exact ⟨rfl,by simp [wdC,h1.2.1]⟩
 rcases hK with ⟨rfl,hno⟩|⟨hkm,hm1,hm2⟩
 ·refine ⟨0,0,[],0,false,?_,(by simp),fun _=>v3a.2 fun c h1 h2=>hno c.k h1.1 (hmatch c h1 h2)⟩
  unfold G88
  simp only [z2d,z2e,z4b,Int.reduceLT,Int.reduceEq,Int.reduceLE,h126,h125,k1,if_true]
  rfl
 ·have hK0:¬ K=0:=by rintro rfl; exact hkm (by decide)
  obtain ⟨w0,X,rfl⟩:=List.exists_cons_of_ne_nil hne
  have hXl:X.length=z3a K+2:=by simp only [eBi] at hm2; omega
  have hmt:=v25 K
  obtain ⟨r,k2,hr⟩:=v4q X (by omega) (fun x hx=>by have:=hsx x (eCm _ hx); omega) K (mkB (w++[10]))
  have hen:(z75 (w0::X)).length=X.length+1:=by rw [z72]; rfl
  have hd1:(z75 (w0::X)).drop 1=z75 X:=rfl
  have htk:(z75 X).take X.length=z75 X:=eDa (by rw [z72]; exact eAk _)
  have hkk:∀ c,CdL c→lnC c=w→c.k=K:=fun c h1 h2=>by
   have:=hmatch c h1 h2
   exact v36 h1.1 hkm (by rw [this.1,hm1])
  have q1:(1:Int)≤((X.length+1:Nat):Int):=by omega
  have q2:(0:Int)≤1:=by omega
  have hexl:(z75 X).length=X.length:=z72 X
  rcases hr with ⟨rfl,x,hx,hbad⟩|⟨ns,rfl,hnl,hns⟩
  ·refine ⟨0,K,[],0,false,?_,(by simp),fun _=>v3a.2 fun c h1 h2=>?_⟩
   ·unfold G88
    simp only [z2d,z2e,z4b,Int.reduceLT,Int.reduceEq,Int.reduceLE,h126,h125,k1,hK0,hen,q1,q2,Int.le_refl,Int.reduceToNat,hd1,Nat.add_sub_cancel,htk,hexl,k2,if_true,if_false]
    rfl
   ·have hwd:=hcd c h1 h2
    have:x∈(c.n::(c.t++[c.a])).map Lib.itoa:=by
     unfold wdC at hwd
     simp only [List.cons.injEq] at hwd
     rw [hwd.2] at hx; simpa using hx
    obtain ⟨v,hv,rfl⟩:=eBb.1 this
    have hrv:Rng v:=by
     rcases eAz.1 hv with rfl|hv
     ·exact h1.2.2.1
     ·rcases eBj.1 hv with hv|hv
      ·exact h1.2.2.2.1 v hv
      ·simp only [eBe] at hv; subst hv; exact h1.2.2.2.2
    exact hbad v ⟨v21 hrv,hrv⟩
  ·obtain ⟨n,t,a,rfl,htl⟩:=ends (hnl.trans hXl)
   have hrng:∀ v∈n::(t++[a]),Rng v:=by
    intro v hv
    obtain ⟨i,hi,he⟩:=eDf.1 hv
    obtain ⟨x,hx⟩:=z1v (show i<X.length by omega)
    exact (hns i x v hx (by rw [eAa hi,he])).2
   have hc:CdL ⟨n,K,t,a⟩:=⟨hkm,htl,hrng n (by simp),fun x hx=>hrng x (by simp [hx]),hrng a (by simp)⟩
   have hr64:∀ v,Rng v→y5g v=true:=fun v hv=>by
    unfold Rng MX at hv
    unfold y5g
    rw [eAb]
    exact ⟨decide_eq_true (by omega),decide_eq_true (by omega)⟩
   have hls:=z76 (c:=⟨n,K,t,a⟩) hkm
   have hln:(lnC ⟨n,K,t,a⟩).length≤1000:=by
    have e:=v33 ⟨n,K,t,a⟩
    rw [e]
    have h1:=z53 (n:=n) hc.2.2.1
    have h2:=z53 (n:=a) hc.2.2.2.2
    have h3:=v4x K
    have h4:∀ l:List Int,(∀ x∈l,Rng x)→((l.map fun x=>(32:UInt8)::Lib.itoa x).flatten).length≤22*l.length:=by
     intro l
     induction l with
     |nil=>intro _; simp
     |cons x l ih=>
      intro h
      have h1:=ih fun y hy=>h y (eCm _ hy)
      have h2:=z53 (n:=x) (h x eBq)
      simp only [eDb,eDd,eBu,eBi]
      omega
    have h5:=h4 t hc.2.2.2.1
    unfold lnP
    simp only [eBu,List.length_singleton,List.take_length]
    omega
   have h84:=w8w ⟨n,K,t,a⟩ ⟨hr64 n hc.2.2.1,fun x hx=>hr64 x (hc.2.2.2.1 x hx),hr64 a hc.2.2.2.2⟩ (by show t.length≤1000; omega) (by rw [hls,z36]; simp; omega)
   rw [hls] at h84
   refine ⟨n,K,t,a,decide (lnC ⟨n,K,t,a⟩++[10]=w++[10]),?_,fun h=>?_,fun h=>v3a.2 fun c h1 h2=>?_⟩
   ·have hEl:(z1a (n::(t++[a]))).length=z3a K+2:=by rw [z00]; simp [htl]
    have hE0:(z1a (n::(t++[a])))[0]?=some (eI n):=rfl
    have hEa:(z1a (n::(t++[a])))[z3a K+1]?=some (eI a):=by
     rw [←htl]; simp [z1a]
    have hEt:((z1a (n::(t++[a]))).drop 1).take (z3a K)=z1a t:=by
     rw [←htl]; simp [z1a]
    have hEk:(z1a (n::(t++[a]))).take (z3a K+2)=z1a (n::(t++[a])):=eDa (by omega)
    have hws:IntKind.i64.wrap (((z3a K+2:Nat):Int) - 1)=((z3a K+1:Nat):Int):=by rw [w21 _ (by omega) (by omega)]; omega
    have q3:(1:Int)≤((z3a K+1:Nat):Int):=by omega
    have q4:((z3a K+1:Nat):Int)≤((z3a K+2:Nat):Int):=by omega
    have q5:(0:Int)≤((z3a K+1:Nat):Int):=by omega
    generalize z1a (n::(t++[a]))=E at*
    unfold G88
    simp only [z2d,z2e,z4b,Int.reduceLT,Int.reduceEq,Int.reduceLE,h126,h125,k1,hK0,hen,q1,q2,Int.le_refl,Int.reduceToNat,hd1,Nat.add_sub_cancel,htk,hexl,k2,if_true,if_false,hEl,hEk,eDc,hE0,hEa,hEt,hws,q3,q4,q5,z84,eAk,y8q,w5s,h84,z20]
   ·have h:=of_decide_eq_true h
    exact z41.2 ⟨hc,List.append_cancel_right h⟩
   ·have hwd:=hcd c h1 h2
    have e2:=v5d h1 hwd.symm hnl hns
    have e1:=hkk c h1 h2
    have hce:c=⟨n,K,t,a⟩:=by
     simp only [List.cons.injEq] at e2
     have h4:=List.append_inj' e2.2 rfl
     cases c
     simp only at*
     subst e1
     rw [e2.1,h4.1]
     have:=(List.cons.inj h4.2).1
     rw [this]
    rw [←hce,h2] at h
    simp at h
theorem v49 {w r:Bs} (h:(10:UInt8)∉w):z26 (w++10::r)=match cdL w,z26 r with|some c,some l=>some (c::l)|_,_=>none:=by
 unfold z26
 rw [v26 h]
 cases hl:lns r with
 |mk ls q=>
  simp only [v40]
  by_cases hq:q=[]
  ·simp only [hq,if_true]<;>cases cdL w<;>cases v40 ls<;>rfl
  ·simp only [hq,if_false]<;>cases cdL w<;>rfl
theorem v5y {w:Bs} (h:(10:UInt8)∉w) (hne:w≠[]):z26 w=none:=by
 unfold z26
 rw [v3o h]
 simp [hne]
theorem v4v:z26 []=some []:=by simp [z26,lns,v40]
theorem v5m (s:Bs) (hl:s.length≤1000000):G87 std (mkB s,(ByteArray.mk #[10],()))=some (mkB (Lib.cut s [10]).1,(mkB (Lib.cut s [10]).2.1,((Lib.cut s [10]).2.2,()))):=by
 unfold G87 w6h
 have hs:(mkB s).size≤1000000:=by rw [z36]; exact hl
 rw [eBg hs,cond_true,z22]
 rfl
def ffl:List Int→Bool:=fun _=>false
theorem v4s (N:Nat):∀ (s:Bs) (out:List Cd),s.length≤N→s.length≤90000→out.length+s.length≤100000→∃ (L:List Cd) (ok:Bool),z5r (z64 std) (z0p ffl out,(mkB s,(true,())))=some (z0p ffl L,(ok,()))∧(ok=true→∃ l,z26 s=some l∧L=out++l)∧(ok=false→z26 s=none):=by
 induction N with
 |zero=>
  intro s out hN _ _
  have:s=[]:=eBn.1 (by omega)
  subst this
  refine ⟨out,true,?_,fun _=>⟨[],v4v,by simp⟩,by simp⟩
  rw [z7m]
  have:z64 std (z0p ffl out,(mkB [],(true,())))=some (.inr (z0p ffl out,(true,()))):=by
   simp only [z64,z2d,z2e,z4b,Int.reduceLT,Int.reduceEq,Int.reduceLE,mk0,z20,if_true,if_false,eAi]
  rw [this]
 |succ N ih=>
  intro s out hN hs hout
  rw [z7m]
  by_cases hne:s=[]
  ·subst hne
   refine ⟨out,true,?_,fun _=>⟨[],v4v,by simp⟩,by simp⟩
   have:z64 std (z0p ffl out,(mkB [],(true,())))=some (.inr (z0p ffl out,(true,()))):=by
    simp only [z64,z2d,z2e,z4b,Int.reduceLT,Int.reduceEq,Int.reduceLE,mk0,z20,if_true,if_false,eAi]
   rw [this]
  ·have h87:=v5m s (by omega)
   rcases v6k s with ⟨w,r,rfl,hw,hcut⟩|⟨hno,hcut⟩
   ·rw [hcut,v5q] at h87
    simp only [eBu,eBi] at hN hs hout
    obtain ⟨n,k,t,a,ok,h88,hok,hbad⟩:=v42 w (by omega)
    have e1:w.length+1≤1000000:=by omega
    rw [v49 hw]
    cases ok with
    |false=>
     refine ⟨out,false,?_,(by simp),fun _=>by rw [hbad rfl]⟩
     have:z64 std (z0p ffl out,(mkB (w++10::r),(true,())))=some (.inr (z0p ffl out,(false,()))):=by
      simp only [z64,z2d,z2e,z4b,Int.reduceLT,Int.reduceEq,Int.reduceLE,mk0,v5q,z20,hne,h87,z21,z46,e1,h88,if_true,if_false,eAi]
     rw [this]
    |true=>
     have hc:=hok rfl
     have hcd:=(z41.1 hc).1
     obtain ⟨L,ok2,k1,k2,k3⟩:=ih r (out++[⟨n,k,t,a⟩]) (by omega) (by omega) (by simp; omega)
     refine ⟨L,ok2,?_,fun h=>?_,fun h=>?_⟩
     ·have e2:out.length+1≤1000000:=by omega
      have e5:(out.map (eC ffl)).take out.length=out.map (eC ffl):=eDa (by simp)
      have:z64 std (z0p ffl out,(mkB (w++10::r),(true,())))=some (.inl (z0p ffl (out++[⟨n,k,t,a⟩]),(mkB r,(true,())))):=by
       simp only [z64,z2d,z2e,z4b,Int.reduceLT,Int.reduceEq,Int.reduceLE,z0p,z1a,mk0,v5q,z20,hne,h87,z21,z46,e1,e2,e5,h88,if_true,if_false,eAi,eAk,eDc]
       simp [eC,z1a,ffl,e2,e5]
      rw [this]
      exact k1
     ·obtain ⟨l,h1,rfl⟩:=k2 h
      exact ⟨⟨n,k,t,a⟩::l,by rw [hc,h1],by simp⟩
     ·rw [k3 h,hc]
   ·rw [hcut,v5q] at h87
    obtain ⟨n,k,t,a,ok,h88,hok,hbad⟩:=v42 s (by omega)
    have e1:s.length+1≤1000000:=by omega
    refine ⟨out,false,?_,(by simp),fun _=>v5y hno hne⟩
    have:z64 std (z0p ffl out,(mkB s,(true,())))=some (.inr (z0p ffl out,(false,()))):=by
     simp only [z64,z2d,z2e,z4b,Int.reduceLT,Int.reduceEq,Int.reduceLE,mk0,v5q,z20,hne,h87,z21,z46,e1,h88,if_true,if_false,eAi]
    rw [this]
noncomputable def v4j (s:Bs):Int:=if 65536<s.length then 7 else match z26 s with|none=>8|some l=>z4y l
noncomputable def v5p (s:Bs):List Cd:=if v4j s=0 then (z26 s).getD [] else []
theorem v5l {l:List Cd} (h:∀ c∈l,CdL c):Few l:=fun c hc=>by
 have h1:=(h c hc).2.1
 have h2:=v25 c.k
 omega
theorem v43 (s:Bs) (hl:s.length≤1000000):G39 std (mkB s,())=some (z0p ffl (v5p s),(v4j s,())):=by
 unfold G39 v5p v4j
 by_cases h:65536<s.length
 ·have h':(65536:Int)<(s.length:Int):=by omega
  simp only [z2d,z2e,z4b,Int.reduceLT,Int.reduceEq,Int.reduceLE,z21,h,h',if_true]
  rfl
 ·have h':¬ (65536:Int)<(s.length:Int):=by omega
  obtain ⟨L,ok,k1,k2,k3⟩:=v4s s.length s [] (eAk _) (by omega) (by simp; omega)
  have e0:z0p ffl []=[]:=rfl
  rw [e0] at k1
  cases ok with
  |false=>
   have hn:=k3 rfl
   simp only [z2d,z2e,z4b,Int.reduceLT,Int.reduceEq,Int.reduceLE,z21,h,h',k1,hn,if_true,if_false,eAi]
   rfl
  |true=>
   obtain ⟨l,h1,hL⟩:=k2 rfl
   rw [List.nil_append] at hL
   subst hL
   have hfew:=v5l (z35.1 h1).2
   have h19:=w3q (fl:=ffl) L hfew
   have hle:(z0p ffl L).length=L.length:=z2i L
   have htk:(z0p ffl L).take L.length=z0p ffl L:=eDa (by rw [hle]; exact eAk _)
   by_cases hd:z4y L=0
   ·simp only [z2d,z2e,z4b,Int.reduceLT,Int.reduceEq,Int.reduceLE,z21,h,h',k1,h1,hle,htk,eDc,eAk,h19,hd,ne_eq,not_true,if_true,if_false,eBk]
   ·simp only [z2d,z2e,z4b,Int.reduceLT,Int.reduceEq,Int.reduceLE,z21,h,h',k1,h1,hle,htk,eDc,eAk,h19,hd,ne_eq,not_false_eq_true,if_true,if_false]
    rfl
end Go.Am
end
section
namespace Go.Am
open D12
variable {fl fl':List Int→Bool}
theorem v3z (l:List Int):y8b (z1a l)=some l:=x5s l
theorem v3l (c:Cd) (es:List (List D)) (l:List Cd) (h:y60 es=some l):y60 (eC fl c::es)=some (c::l):=by
 have h1:=v3z c.t
 show (match y8b (z1a c.t),y60 es with|some t,some r=>some ((⟨c.n,c.k,t,c.a⟩:Cd)::r)|_,_=>none)=_
 rw [h1,h]
theorem v3t (l:List Cd):y60 (z0p fl l)=some l:=by
 induction l with
 |nil=>rfl
 |cons c l ih=>exact v3l c _ l ih
theorem v39 {l:List Cd} (h:∀ c∈l,z3d c=0):y1q l=mkB (z23 l):=by
 have:∀ (l:List Cd) (p:Bs),(∀ c∈l,z3d c=0)→l.foldl (fun s c=>s++z7z c) (mkB p)=mkB (p++z23 l):=by
  intro l
  induction l with
  |nil=>intro p _; simp [z23]
  |cons c l ih=>
   intro p h
   rw [List.foldl_cons,z76 (z70 (h c eBq)).2.1,v3i,ih _ fun d hd=>h d (eCm _ hd)]
   simp [z23]
 exact this l [] h
theorem v44 {l:List Cd} (hl:l.length≤1000) (ht:∀ c∈l,c.t.length≤1000):w9n l=true:=by
 unfold w9n
 rw [eAb]
 refine ⟨eBg (by omega),eAr.2 fun c hc=>?_⟩
 rw [eAb]
 refine ⟨eBg (ht c hc),?_⟩
 by_cases hd:z4y l=0
 ·have hcs:=(z25.1 hd).2.1 c hc
  obtain ⟨hs,hcl⟩:=z70 hcs
  have hr64:∀ v,0≤v∧v≤MX→y5g v=true:=fun v hv=>by
   unfold MX at hv
   unfold y5g
   rw [eAb]
   exact ⟨decide_eq_true (by omega),decide_eq_true (by omega)⟩
  have h1:=hr64 _ hs.1
  have h2:=hr64 _ hs.2.2
  have h3:c.t.all y5g=true:=eAr.2 fun x hx=>hr64 x (hs.2.1 x hx)
  have h4:=v34 hcs
  have h5:Nat.ble (z7z c).size 1000=true:=eBg (by rw [z76 hcl.1,z36]; simp; omega)
  simp [hd,h1,h2,h3,h5]
 ·simp [hd]
theorem v3g (l:List Cd) (hl:l.length≤1000) (ht:∀ c∈l,c.t.length≤1000):G37 std (z0p fl l,())=some (if z4y l=0 then mkB (z23 l) else mkB [],(z4y l,())):=by
 unfold G37
 rw [v3t]
 simp only [v44 hl ht,cond_true]
 by_cases hd:z4y l=0
 ·rw [if_pos hd,if_pos hd,v39 (z25.1 hd).2.1]
 ·rw [if_neg hd,if_neg hd]; rfl
end Go.Am
end
section
namespace Go.Am
namespace D12
structure Sg where
 a:Nat
 b:Nat
 ha:a<2 ^ 64
 hb:b<2 ^ 64
def Sg.has (s:Sg) (i:Nat):Bool:=if i<64 then s.a.testBit i else s.b.testBit (i - 64)
def Sg.none:Sg:=⟨0,0,by omega,by omega⟩
def Sg.and (s t:Sg):Sg:=⟨s.a&&&t.a,s.b&&&t.b,Nat.lt_of_le_of_lt Nat.and_le_left s.ha,Nat.lt_of_le_of_lt Nat.and_le_left s.hb⟩
end D12
end Go.Am
end
section
namespace Go.Am
section
variable {κ ν:Type} [DecidableEq κ]
end
structure v56 (κ ν:Type) where
 ke:κ→D
 ve:ν→D
 ks:List SK
 ka:Bool
 va:Bool
 ck:List CK
structure v56.Ok {κ ν:Type} [DecidableEq κ] (E:v56 κ ν):Prop where
 agg:∀ k,z1h (E.ke k)=E.ka
 kinds:∀ k,z04 E.ks (z0q (E.ke k))=true
 eq:∀ a b,z9f E.ks (z0q (E.ke a)) (z0q (E.ke b))=some (decide (a=b))
 vagg:∀ v,z1h (E.ve v)=E.va
 vok:∀ v,z3k E.ck (z0q (E.ve v))=true
def v56.enc {κ ν:Type} (E:v56 κ ν) (m:List (κ×ν)):List (D×D):=m.map fun e=>(E.ke e.1,E.ve e.2)
section
variable {κ ν:Type} [DecidableEq κ] {E:v56 κ ν} (h:E.Ok)
include h
end
end Go.Am
end
section
namespace Go.Am
namespace D12
def Rp (ss:List Sg) (g:List Cd) (B:Cd→Cd→Bool):Prop:=
 ss.length=g.length∧∀ i c,g[i]?=some c→∀ k,(ss.getD i Sg.none).has k=match g[k]? with|some d=>B d c|none=>false
theorem Rp.congr {ss:List Sg} {g:List Cd} {B C:Cd→Cd→Bool} (h:Rp ss g B) (hc:∀ d∈g,∀ c∈g,B d c=C d c):Rp ss g C:=by
 refine ⟨h.1,fun i c hi k=>?_⟩
 rw [h.2 i c hi k]
 cases hk:g[k]? with
 |none=>rfl
 |some d=>exact hc d (eAu hk) c (eAu hi)
end D12
end Go.Am
end
section
namespace Go.Am
open D12
variable {fl fl':List Int→Bool}
theorem z24 {l:List Cd} (h:z4y l=0):l.length≤60∧(l.map (·.n)).Nodup∧l.Nodup∧(∀ c∈l,z3d c=0)∧(∀ c∈l,1≤c.t.length∧c.t.length≤3∧c.t.Nodup):=by
 obtain ⟨h1,h2,h3⟩:=z25.1 h
 refine ⟨h1,h3,v3b h3,h2,fun c hc=>?_⟩
 obtain ⟨a,b,c1,d,e,f⟩:=z85.1 (h2 c hc)
 refine ⟨?_,?_,e⟩
 ·omega
 ·have:z3a c.k≤3:=by unfold z3a; split<;>(try split)<;>(try split)<;>omega
  omega
end Go.Am
end
section
namespace Go.Am
open D12
variable {fl fl':List Int→Bool}
def v6a (b:List Th):Prop:=b.length≤1000∧(b.map (·.num)).Nodup∧∀ t∈b,0≤t.val∧t.val≤1000000∧0≤t.hrs∧t.hrs≤10000
end Go.Am
end
section
namespace Go.Am
open D12
variable {fl fl':List Int→Bool}
def v6b (m:Nat) (b:List Th):Prop:=b.length≤m∧(b.map (·.num)).Nodup∧∀ t∈b,0≤t.val∧t.val≤1000000∧0≤t.hrs∧t.hrs≤10000
theorem v6b.ok {m:Nat} {b:List Th} (h:v6b m b) (hm:m≤1000):v6a b:=⟨by have:=h.1; omega,h.2⟩
end Go.Am
end
section
namespace Go.Am
open D12
variable {fl fl':List Int→Bool}
theorem v23 {l m:List Cd} (h:z4y l=0) (hs:m.Sublist l):z4y m=0:=by
 obtain ⟨h1,h2,h3⟩:=z25.1 h
 exact z25.2 ⟨eBf hs.length_le h1,fun c hc=>h2 c (hs.subset hc),h3.sublist (hs.map _)⟩
theorem v28 {l:List Cd}:v5r l=true↔z4y l=0:=by
 unfold v5r
 simp only [eAb,eBy,decide_eq_true_eq]
 constructor
 ·exact fun h=>h.2
 ·intro h
  refine ⟨?_,h⟩
  obtain ⟨h1,_,_,_,h5⟩:=z24 h
  unfold x8g
  simp only [Bool.or_eq_false_iff,decide_eq_false_iff_not,List.any_eq_false,decide_eq_true_eq]
  exact ⟨by omega,fun c hc=>by have:=(h5 c hc).2.1; omega⟩
theorem v50 {l:List Cd} (h:z4y l=0):Few l:=fun c hc=>by have:=((z24 h).2.2.2.2 c hc).2.1; omega
end Go.Am
end
section
namespace Go.Am
open D12
variable {fl fl':List Int→Bool}
def Chn (B:Cd→Cd→Bool):List Cd→Prop
 |[]=>True
 |[_]=>True
 |x::y::l=>B x y=true∧Chn B (y::l)
theorem Chn.left {B:Cd→Cd→Bool}:∀ {p q:List Cd},Chn B (p++q)→Chn B p
 |[],_,_=>trivial
 |[_],_,_=>trivial
 |x::y::p,q,h=>⟨h.1,Chn.left (p:=y::p) (q:=q) h.2⟩
end Go.Am
end
section
namespace Go.Am
open D12
variable {fl fl':List Int→Bool}
theorem v4b (l m:List Cd):z23 (l++m)=z23 l++z23 m:=by simp [z23]
theorem v48 {l:List Cd} (h:z4y l=0):z26 (z23 l)=some l∧v4j (z23 l)=0∧v5p (z23 l)=l∧(z23 l).length≤12060:=by
 obtain ⟨h1,h2,_⟩:=z25.1 h
 have hr:z26 (z23 l)=some l:=z35.2 ⟨rfl,fun c hc=>(z70 (h2 c hc)).2⟩
 have hl:=v4a h2
 have hst:v4j (z23 l)=0:=by
  unfold v4j
  rw [if_neg (by omega),hr]
  exact h
 refine ⟨hr,hst,?_,by omega⟩
 unfold v5p
 rw [if_pos hst,hr]; rfl
theorem v3y {w:Bs} (hw:¬ 65536<w.length) (hr:v4j w=0):∃ L,z26 w=some L∧z4y L=0∧v5p w=L:=by
 have h2:=hr
 unfold v4j at h2
 rw [if_neg hw] at h2
 cases hq:z26 w with
 |none=>rw [hq] at h2; simp at h2
 |some L=>
  rw [hq] at h2
  refine ⟨L,rfl,h2,?_⟩
  unfold v5p
  rw [if_pos hr,hq]; rfl
theorem v59 (l:List Cd) (s:ByteArray) (at_:Int) (hs:s.size≤maxLen) (ha:0≤at_∧at_≤255):G11 std (z0p fl l,(s,(at_,())))=some (true,()):=by
 rw [←v30 s]
 generalize s.data.toList=w
 have g41:=v4i (fl:=fl) l
 unfold G11
 by_cases h4:4000<w.length
 ·have q1:(4000:Int)<(w.length:Int):=by omega
  simp only [z2d,z2e,z4b,Int.reduceLT,Int.reduceEq,Int.reduceLE,z21,q1,G16,if_true]
 ·have q1:¬ (4000:Int)<(w.length:Int):=by omega
  have h39:=v43 w (by omega)
  by_cases hf:v5r l=true
  ·have h:=v28.1 hf
   rw [hf] at g41
   obtain ⟨h1,h2,h3,h5,h6⟩:=z24 h
   have ht:∀ c∈l,c.t.length≤1000:=fun c hc=>by have:=(h6 c hc).2.1; omega
   obtain ⟨r1,r2,r3,r4⟩:=v48 h
   have w37:=v3g (fl:=fl) l (by omega) ht
   rw [if_pos h,h] at w37
   have w39:=v43 (z23 l) (by omega)
   rw [r2,r3] at w39
   have w34:=v58 (fl:=ffl) (fl':=fl) l l (by omega) (v50 h)
   simp only [decide_true] at w34
   have hle:(z0p fl l).length=l.length:=z2i l
   have hle2:(z0p ffl l).length=l.length:=z2i l
   have htk2:(z0p ffl l).take l.length=z0p ffl l:=eDa (by rw [hle2]; exact eAk _)
   obtain ⟨a,rfl⟩:=Int.eq_ofNat_of_zero_le ha.1
   have e1:IntKind.i64.wrap (a:Int)=(a:Int):=w21 _ (by omega) (by omega)
   have e2:IntKind.i64.wrap ((l.length:Int)+1)=((l.length+1:Nat):Int):=w0a (by omega)
   have e3:std.ar .rem .i64 (a:Int) ((l.length+1:Nat):Int)=((a % (l.length+1):Nat):Int):=by
    rw [v3q,Int.tmod_eq_emod_of_nonneg (by omega)]; omega
   have hk:a % (l.length+1)<l.length+1:=eCr _ (by omega)
   have e4:¬ ((l.length+1:Nat):Int)=0:=by omega
   generalize a % (l.length+1)=k at*
   have q2:(0:Int)≤(k:Int):=by omega
   have q3:(k:Int)≤(l.length:Int):=by omega
   have c1:(z0p fl l).take k=z0p fl (l.take k):=by simp [z0p,List.map_take]
   have c2:((z0p fl l).drop k).take (l.length - k)=z0p fl (l.drop k):=by
    rw [eDa (by rw [eCx,hle]; exact eAk _)]; simp [z0p,List.map_drop]
   have d1:=v23 h (List.take_sublist k l)
   have d2:=v23 h (List.drop_sublist k l)
   have p1:=v3g (fl:=fl) (l.take k) (by rw [eBv]; omega) fun c hc=>ht c (List.mem_of_mem_take hc)
   have p2:=v3g (fl:=fl) (l.drop k) (by rw [eCx]; omega) fun c hc=>ht c (List.mem_of_mem_drop hc)
   rw [if_pos d1,d1] at p1
   rw [if_pos d2,d2] at p2
   have hcat:z23 (l.take k)++z23 (l.drop k)=z23 l:=by rw [←v4b,List.take_append_drop]
   have z1:(z23 (l.take k)).length+(z23 (l.drop k)).length≤1000000:=by
    have:=congrArg List.length hcat
    rw [eBu] at this; omega
   have t0:(0:Int).toNat=0:=rfl
   generalize z0p fl l=E at*
   by_cases hr:v4j w=0
   ·obtain ⟨L,hL1,hL2,hL3⟩:=v3y (by omega) hr
    rw [hL3,hr] at h39
    have hwe:z23 L=w:=(z35.1 hL1).1.symm
    have v37:=v3g (fl:=ffl) L (by have:=(z24 hL2).1; omega) fun c hc=>by have:=((z24 hL2).2.2.2.2 c hc).2.1; omega
    rw [if_pos hL2,hL2,hwe] at v37
    have v41:=v4i (fl:=ffl) L
    rw [v28.2 hL2] at v41
    have hlL:(z0p ffl L).length=L.length:=z2i L
    have htL:(z0p ffl L).take L.length=z0p ffl L:=eDa (by rw [hlL]; exact eAk _)
    simp only [z2d,z2e,z4b,Int.reduceLT,Int.reduceEq,Int.reduceLE,z21,z46,z20,q1,h39,hlL,htL,v37,v41,g41,w37,w39,hle2,htk2,w34,hle,e1,e2,e3,e4,q2,q3,t0,c1,c2,p1,p2,z1,hcat,G16,Int.le_refl,Nat.sub_zero,eAp,eAk,eDc,ne_eq,not_true,not_false_eq_true,Bool.and_self,if_true,if_false,eAi]
   ·simp only [z2d,z2e,z4b,Int.reduceLT,Int.reduceEq,Int.reduceLE,z21,z46,z20,q1,h39,hr,g41,w37,w39,hle2,htk2,w34,hle,e1,e2,e3,e4,q2,q3,t0,c1,c2,p1,p2,z1,hcat,G16,Int.le_refl,Nat.sub_zero,eAp,eAk,eDc,ne_eq,not_true,not_false_eq_true,Bool.and_self,if_true,if_false,eAi]
  ·have hff:v5r l=false:=by simpa using hf
   rw [hff] at g41
   by_cases hr:v4j w=0
   ·obtain ⟨L,hL1,hL2,hL3⟩:=v3y (by omega) hr
    rw [hL3,hr] at h39
    have hwe:z23 L=w:=(z35.1 hL1).1.symm
    have v37:=v3g (fl:=ffl) L (by have:=(z24 hL2).1; omega) fun c hc=>by have:=((z24 hL2).2.2.2.2 c hc).2.1; omega
    rw [if_pos hL2,hL2,hwe] at v37
    have v41:=v4i (fl:=ffl) L
    rw [v28.2 hL2] at v41
    have hlL:(z0p ffl L).length=L.length:=z2i L
    have htL:(z0p ffl L).take L.length=z0p ffl L:=eDa (by rw [hlL]; exact eAk _)
    simp only [z2d,z2e,z4b,Int.reduceLT,Int.reduceEq,Int.reduceLE,z21,z20,q1,h39,hlL,htL,v37,v41,g41,G16,eAk,eAp,eDc,ne_eq,not_true,Bool.and_self,if_true,if_false,eAi]
   ·simp only [z2d,z2e,z4b,Int.reduceLT,Int.reduceEq,Int.reduceLE,z21,z20,q1,h39,hr,g41,G16,ne_eq,not_false_eq_true,if_true,if_false,eAi]
end Go.Am
end
