/- Texts of this claim. -/
import Derived.Test.YtejcgpekgbiooaaGreatDoorZT3
import Derived.Test.YtejcgpekgbiooaaGreatDoorProg
import Derived.KernelRfl
import Derived.Sort.Row
import Derived.Sort.Grow
import Derived.Shelf.SortM.Plain
import Derived.Shelf.SortM.SortNone
import Derived.Below
import Derived.Shelf.Lays
import Derived.Shelf.Strings.OnBuilder
set_option linter.all false
set_option maxRecDepth 100000
set_option maxHeartbeats 0
open Sum renaming inr→eAm,inl→eAs
open Decidable renaming byContradiction→eDq
open Go.World renaming cell?→eFc
open ByteArray renaming mk→eCe
open BitVec renaming ofInt→eFb
open Ne renaming symm→eDa
open List renaming mem_cons→eBa,not_mem_nil→eCl,mem_cons_of_mem→eCq,mem_cons_self→eBv,mem_filter→eDb,nodup_cons→eGm,length_cons→eCa,pairwise_iff_getElem→eFi,getElem_mem→eDe,pairwise_cons→eDi,find?_some→eFj,mem_of_find?_eq_some→eCv,find?_eq_none→eFn,mem_iff_getElem→eBs,map_cons→eFs,getElem?_map→eAj,length_eq_zero_iff→eBw,getElem?_eq_getElem→eAd,getElem?_eq_some_iff→eAe,length_take→eCk,getElem_idxOf→eGk,mem_of_getLast?→eGp,mem_append→eBx,mem_singleton→eBn,mem_append_left→eDp,any_eq_false→eFg,mem_map→eBq,range→eAv,any_eq_true→eBd,getD_eq_getElem?_getD→eAr,mem_range→eBj,mem_of_getElem?→eAn,cons_append→eGr,take_length→eDf,drop_zero→eCo,drop_drop→eGf,mem_map_of_mem→eGt,idxOf_lt_length_of_mem→eDc,length_map→eBp,replicate→eAu,getElem?_replicate→eCs,getElem?_set_ne→eFa,foldl_cons→eDo,append_assoc→eDr,length_nil→eDw,append_nil→eDx,length_set→eFz,take_add_one→eGb,take_of_length_le→eBz,all_eq_true→eBm,getElem?_set→eCr
open Bool renaming eq_iff_iff→eBu,not_true→eCp,false_eq_true→eAh,or_eq_true→eBh,and_eq_true→eAf,not_eq_true'→eCy,and_self→eCc,and_true→eDm,or_false→eGd,not_false→eCn,and_false→eGq,false_and→eDn
open Option renaming map_eq_some_iff→eBy,map_some→eBo,getD_some→eCd,bind_some→eCb
open Array renaming getD_eq_getD_getElem?→eAq,getElem?_eq_getElem→eBg,getElem?_modify→eDt,getElem?_setIfInBounds→eDu,getElem?_eq_some_iff→eAi
open Nat renaming mul_one→eDg,add_zero→eBk,ble→eAz,le_of_ble_eq_true→eAl,pow_lt_pow_right→eGo,lt_of_lt_of_le→eBc,mod_eq_of_lt→eDz,le_refl→eAp,beq→eAk,zero_le→eBb,sub_zero→eGs,zero_add→eAy,lt_or_ge→eCu,ble_eq_true_of_le→eCi,eq_of_beq_eq_true→eAg
open Int renaming reduceLT→eAa,reduceEq→eAb,reduceLE→eAc,toNat_natCast→eFf,toNat_zero→eFx,le_refl→eDd
open Go.Proofs.Tryz renaming prog → PG
noncomputable section
namespace Go.Am
theorem follows_mixed:Go.Proofs.Tryz.prog.follows .mixedOrders=true:=by kernel_rfl
abbrev nD {β : Type} (c : Bool) (k : Option β) : Option β := opt.need β c k
abbrev rT {β : Type} (x : β) : Option β := opt.ret β x
abbrev aK {β : Type} (c : Bool) (x y : Option β) : Option β := opt.ask β c x y
abbrev LD := List (List D)
abbrev ci : CK := .int .i64
theorem gN {P : Program} : GamOk P [] := fun _ h => by cases h
theorem gC {P : Program} {c : Ctr} {F : Prim → Tup c.scs → Option (STup (scss c.outs))} {l : List CF} (h : CtrOk P c (F std)) (k : GamOk P l) : GamOk P (⟨c, F⟩ :: l) := fun cf hm => by
 rcases eBa.1 hm with rfl | hm
 · exact h
 · exact k cf hm
theorem okF {E : Env} (hE : EnvOk PG E) {c : Ctr} {a : Anns} {l : List LA} {F : Prim → Tup c.scs → Option (STup (scss c.outs))} (hg : GamOk PG a.Γ) (he : (infoOf PG c.g).isSome = true := by kernel_rfl) (h : ∀ (p : Prim) x, bodyRun opt p E (mkOrc opt p E 400 a l) 400 c x = F p x := by intro _ _; kernel_rfl) : CtrOk PG c (F std) :=
 ctr_of_body hE (mkOrc_ok hE hg _) (enters_auto (b := _) rfl he) fun x => h std x
theorem vD : EnvOk PG (autoEnvD [] PG) := autoEnvD_ok follows_mixed
theorem vE : EnvOk PG (autoEnvE [] PG) := autoEnvE_ok follows_mixed

abbrev o0m : OT := .box [.int .i64, .int .i64, .list 1, .int .i64]
abbrev o1m : OT := .box [.str, .int .i64, .int .i64, .int .i64]
abbrev o2m : OT := .row [(CK.int .u64), (CK.int .u64)]
abbrev o3m : OT := .box [.sl 1 4, .map 2, .full 3 2]
abbrev o4m : OT := .box [.sl 2 4, .map 3, .full 4 2]
abbrev o5m : OT := .box [.sl 3 4, .map 4, .full 5 2]
abbrev o6m : OT := .box [.sl 0 4, .map 4, .full 5 2]
abbrev o7m : OT := .box [.sl 4 4, .map 5, .full 6 2]
abbrev o8m : OT := .box [.sl 5 4, .map 6, .full 7 2]
abbrev o9m : OT := .row [ci, ci, (CK.list 1), ci]
abbrev o10m : OT := .box [.sl 1 4, .map 2, .nils]
abbrev o11m : OT := .box [.int .u64, .int .u64]
abbrev o12m : OT := .box [.int .i64]
abbrev o13m : OT := .box [.bptr 0 0]
abbrev o14m : OT := .box [.bptr 3 0]
abbrev o15m : OT := .box [.bptr 4 0]
abbrev o16m : OT := .row [CK.bool]
abbrev o17m : OT := .box [.bool]
abbrev o18m : OT := .row [ci]
abbrev o19m : List OT := [o11m, .box [.bptr 2 0], o5m, o9m, .map, o2m]
abbrev o20m : List OT := [o15m, o11m, .map, o18m, o8m, o9m, .map, o2m]
abbrev o21m : List OT := [o14m, o11m, o17m, o7m, o9m, .map, o2m]
abbrev o22m : List OT := [o14m, .map, o18m, o7m, o9m, .map, o2m]
abbrev o23m : List OT := [o9m, o11m, o14m, o6m, .map, o2m]
abbrev o24m : List OT := [o4m, .map, o9m, .map, o2m]
abbrev o25m : List OT := [o3m, o9m, .map, o2m]
abbrev o26m : List OT := [o11m, o11m, o11m]
abbrev o27m : List OT := [o10m, o9m, .map]
abbrev o28m : List OT := [o12m, o12m]
abbrev o29m : List OT := [o16m, o9m]
abbrev tU := true
abbrev fU := false
abbrev V1v := (Int×Unit)
abbrev V0v := (Int×V1v)
abbrev V2v := (Bool×Unit)
abbrev V26v := (D×D)
abbrev V49v := (Int×V0v)
abbrev V14v := (Int×V49v)
abbrev V23v := (Int×(Int×(Int×V14v)))
abbrev V3v := (LD×(List (V26v)×(LD×(LD×(Nat×(Nat×(Int×(Int×V23v))))))))
abbrev V18v := (LD×V0v)
abbrev V55v := (Int×V18v)
abbrev V4v := (Int×V55v)
abbrev V11v := (Nat×(Nat×Unit))
abbrev V5v := (LD×(List (V26v)×(LD×V11v)))
abbrev V6v := (List (V26v)×(LD×(List (V26v)×(LD×(Nat×(Nat×(Int×(LD×(Int×(Int×(LD×V4v)))))))))))
abbrev V17v := (Nat×(Nat×V1v))
abbrev V7v := (LD×(List (V26v)×(LD×(Int×(Int×V17v)))))
abbrev V8v := (ByteArray×V49v)
abbrev V9v := (List (V26v)×(LD×(List (V26v)×(LD×(Nat×(Nat×(LD×V4v)))))))
abbrev V10v := (LD×Unit)
abbrev V25v := (LD×V1v)
abbrev V12v := (Int×(Int×V25v))
abbrev V13v := (LD×(List (V26v)×(LD×(Int×(Int×(Bool×(Nat×(Nat×V0v))))))))
abbrev V15v := (LD×(List (V26v)×(Nat×(Nat×(LD×(LD×V4v))))))
abbrev V24v := (Int×V2v)
abbrev V48v := (Int×V24v)
abbrev V16v := (List (V26v)×(LD×(LD×(List (V26v)×(LD×(Int×(Int×(Nat×(Nat×(Int×(Int×V48v)))))))))))
abbrev V19v := (LD×(List (V26v)×(LD×(Int×(Int×(Bool×(Nat×(Nat×V14v))))))))
abbrev V20v := (List (V26v)×(LD×(LD×(List (V26v)×(LD×(Int×(Int×(Nat×(Nat×V49v)))))))))
abbrev V46v := (Nat×(Nat×(Nat×V0v)))
abbrev V21v := (LD×(List (V26v)×(LD×(Nat×V46v))))
abbrev V22v := (LD×(List (V26v)×(LD×(Nat×(Nat×V0v)))))
abbrev V27v := (LD×(List (V26v)×(LD×(Int×(Int×V11v)))))
abbrev V52v := (LD×V18v)
abbrev V28v := (LD×(LD×V52v))
abbrev V29v := (Int×(Int×(LD×(Int×V4v))))
abbrev V30v := (LD×(List (V26v)×(LD×(Int×(Int×(Bool×V11v))))))
abbrev V31v := (List (V26v)×(LD×(LD×(List (V26v)×(LD×V17v)))))
abbrev V32v := (LD×V10v)
abbrev V33v := (LD×(List (V26v)×(LD×(Nat×(Nat×(Int×V14v))))))
abbrev V34v := (Int×(Int×(LD×V24v)))
abbrev V35v := (LD×(LD×(LD×(LD×(Int×(Int×(Bool×V1v)))))))
abbrev V36v := (LD×(List (V26v)×(LD×(Nat×(Nat×(Int×(Int×(LD×(Int×(Int×(Nat×(Nat×(Int×(Int×(Nat×(Nat×(Nat×V48v)))))))))))))))))
abbrev V37v := (LD×(LD×(LD×V17v)))
abbrev V38v := (LD×(Nat×(Nat×(Nat×(Int×(Nat×V17v))))))
abbrev V39v := (LD×(List (V26v)×(LD×(Nat×(Nat×V18v)))))
abbrev V40v := (LD×(List (V26v)×(LD×(Nat×(Nat×(Int×(Int×(LD×(Int×(Int×(Nat×(Nat×(Int×(Int×V46v))))))))))))))
abbrev V41v := (List (V26v)×V18v)
abbrev V42v := (List (V26v)×(LD×V7v))
abbrev V43v := (LD×(List (V26v)×(LD×(Nat×(Nat×V2v)))))
abbrev V44v := (LD×(Nat×V11v))
abbrev V45v := (LD×V25v)
abbrev V47v := (LD×(List (V26v)×(LD×(LD×V11v))))
abbrev V50v := (LD×(LD×(LD×V2v)))
abbrev V51v := (Int×(Int×(LD×(Int×V12v))))
abbrev V53v := (List (V26v)×(LD×(List (V26v)×(LD×(LD×(Int×(Int×V17v)))))))
abbrev V54v := (Int×(Int×(LD×V49v)))
abbrev V56v := (LD×(List (V26v)×(LD×(Int×(Int×(Nat×(Nat×V2v)))))))
abbrev V57v := (ByteArray×Unit)
abbrev V58v := (LD×(List (V26v)×(LD×(Int×(Int×(Nat×V46v))))))
abbrev V59v := (LD×(List (V26v)×(LD×(LD×(Nat×(Nat×V23v))))))
abbrev V60v := (LD×(List (V26v)×(LD×(LD×(Nat×(Nat×V14v))))))
abbrev V61v := (LD×(Int×(Int×(LD×(Int×(Nat×(Nat×V18v)))))))
abbrev V62v := (Int×(Int×(LD×(Int×(ByteArray×(Int×V48v))))))
abbrev V63v := (List (V26v)×Unit)
abbrev V64v := (Nat×(Nat×V52v))
abbrev V65v := (Int×V10v)
abbrev V66v := (LD×(Nat×V17v))
def v07:Ctr:=
 ⟨43,[.list 4, .int .i64],[],[(.ret,⟨[(0, .int .i64)],[],1⟩)]⟩
def la43:List LA:=
 [⟨43,[fU,tU,fU,tU],0,⟨⟨[(0, .list 4),(1, .int .i64),(5, .int .i64)],[],20⟩,[(AX.ret,⟨[(4, .int .i64)],[],20⟩),((AX.exit 0),⟨[],[],20⟩)]⟩⟩]
def ja43:List JA:=
 []
def t2l:List CF:=
 []
def an43:Anns:=
 ⟨t2l,ja43,[]⟩
def w63 (p:Prim):V18v→Option (V18v⊕(V1v⊕Unit)):=
 fun a=>let A:=a.2.2.1; opt.run _ (
 aK (p.cmp .lss A (p.ofNat (p.len a.1))) (
 nD (p.rowOk a.1 (p.nat A) [ci,ci,(CK.list 1),ci])<|
 nD (p.cmp .geq A 0)<|
 aK (p.cmp .eql (p.rdI a.1 (p.nat A) 0) a.2.1) (
 rT (eAm (eAs a.2.2))) (
 rT (eAs (a.1,(a.2.1,((p.ar .add .i64 A 1),())))))) (
 rT (eAm (eAm ()))))
def G43:(p:Prim)→V25v→Option (V1v):=
 fun p x=>
 opt.alt (V1v) (Unit) _ (
 z1a (w63 p) (x.1,(x.2.1,((0:Int),())))) (fun a=>
 rT a) (fun b=>
 opt.bnd (Unit) _ (some b) fun c=>
 rT ((-1:Int),()))
theorem x9m:z3g PG 43:=enters_auto (b:=_) rfl (by kernel_rfl)
theorem u7r:CtrOk PG v07 (G43 std):=okF vE (a:=an43) (l:=la43) (gN)
def v8a:Ctr:=
 ⟨44,[.agg [.int .i64, .int .i64, .list 1, .int .i64], .agg [.int .i64, .int .i64, .list 1, .int .i64]],[],[(.ret,⟨[(0, .bool)],[],1⟩)]⟩
def la44:List LA:=
 [⟨44,[fU,tU,fU,tU],0,⟨⟨[(2, .bptr 0 0),(3, .bptr 1 0),(5, .int .i64)],[o0m,o0m],32⟩,[(AX.ret,⟨[(4, .bool)],[],32⟩),((AX.exit 0),⟨[],[],32⟩)]⟩⟩,
 ⟨44,[fU,tU,fU,fU,tU,fU,fU,tU,fU,tU],0,⟨⟨[(2, .bptr 0 0),(3, .bptr 1 0),(5, .int .i64),(6, .int .i64)],[o0m,o0m],32⟩,[(AX.ret,⟨[(4, .bool)],[],32⟩),((AX.exit 2),⟨[(2, .bptr 0 0),(3, .bptr 1 0),(5, .int .i64)],[o0m,o0m],32⟩)]⟩⟩]
def ja44:List JA:=
 []
def t2k:List CF:=
 []
def an44:Anns:=
 ⟨t2k,ja44,[]⟩
def w61 (p:Prim):(Int×(Int×(LD×(Int×V54v))))→Option ((Int×(Int×(LD×(Int×V54v))))⊕(V2v⊕V29v)):=
 fun a=>let A:=a.2.2.2.2.2.2.2.2.2.1;let B:=a.2.2.2.2.2.2.2.2.1;let C:=a.2.2.2.2.2.2.1; opt.run _ (
 aK (p.cmp .lss A (p.ofNat (p.len C))) (
 nD (p.rowOk a.2.2.1 (p.nat B) [ci])<|
 nD (p.cmp .geq B 0)<|
 nD (p.rowOk C (p.nat A) [ci])<|
 nD (p.cmp .geq A 0)<|
 aK (p.cmp .eql (p.rdI a.2.2.1 (p.nat B) 0) (p.rdI C (p.nat A) 0)) (
 rT (eAm (eAs (true,())))) (
 rT (eAs (a.1,(a.2.1,(a.2.2.1,(a.2.2.2.1,(a.2.2.2.2.1,(a.2.2.2.2.2.1,(C,(a.2.2.2.2.2.2.2.1,(B,((p.ar .add .i64 A 1),()))))))))))))) (
 rT (eAm (eAm (a.1,(a.2.1,(a.2.2.1,(a.2.2.2.1,(a.2.2.2.2.1,(a.2.2.2.2.2.1,(C,(a.2.2.2.2.2.2.2.1,(B,())))))))))))))
def w62 (p:Prim):V29v→Option (V29v⊕(V2v⊕Unit)):=
 fun a=>opt.run _ (
 aK (p.cmp .lss a.2.2.2.2.2.2.2.2.1 (p.ofNat (p.len a.2.2.1))) (
 opt.alt (V2v) (V29v) _ (
 z1a (w61 p) (a.1,(a.2.1,(a.2.2.1,(a.2.2.2.1,(a.2.2.2.2.1,(a.2.2.2.2.2.1,(a.2.2.2.2.2.2.1,(a.2.2.2.2.2.2.2.1,(a.2.2.2.2.2.2.2.2.1,((0:Int),()))))))))))) (fun b=>
 rT (eAm (eAs b))) (fun c=>
 opt.bnd (V29v) _ (some c) fun d=>
 rT (eAs (d.1,(d.2.1,(d.2.2.1,(d.2.2.2.1,(d.2.2.2.2.1,(d.2.2.2.2.2.1,(d.2.2.2.2.2.2.1,(d.2.2.2.2.2.2.2.1,((p.ar .add .i64 d.2.2.2.2.2.2.2.2.1 1),())))))))))))) (
 rT (eAm (eAm ()))))
def G44:(p:Prim)→V51v→Option (V2v):=
 fun p x=>
 opt.alt (V2v) (Unit) _ (
 z1a (w62 p) (x.1,(x.2.1,(x.2.2.1,(x.2.2.2.1,(x.2.2.2.2.1,(x.2.2.2.2.2.1,(x.2.2.2.2.2.2.1,(x.2.2.2.2.2.2.2.1,((0:Int),())))))))))) (fun a=>
 rT a) (fun b=>
 opt.bnd (Unit) _ (some b) fun c=>
 rT (false,()))
theorem v0s:z3g PG 44:=enters_auto (b:=_) rfl (by kernel_rfl)
theorem u9k:CtrOk PG v8a (G44 std):=okF vE (a:=an44) (l:=la44) (gN)
def v77:Ctr:=
 ⟨77,[.agg [.int .i64, .int .i64, .list 1, .int .i64], .agg [.int .i64, .int .i64, .list 1, .int .i64]],[],[(.ret,⟨[(0, .bool)],[],1⟩)]⟩
def la77:List LA:=
 [⟨77,[fU,tU,fU,tU,tU],0,⟨⟨[(2, .bptr 0 0),(3, .bptr 1 0),(5, .int .i64)],[o0m,o0m],52⟩,[(AX.ret,⟨[(4, .bool)],[],52⟩),((AX.exit 0),⟨[],[],52⟩)]⟩⟩]
def ja77:List JA:=
 [⟨77,[fU,fU,tU],0,[(AX.normal,⟨[(2, .bptr 0 0),(3, .bptr 1 0),(33, .bool)],[o0m,o0m],52⟩)]⟩]
def t1y:List CF:=
 []
def an77:Anns:=
 ⟨t1y,ja77,[]⟩
def w6t (p:Prim):V29v→Option (V29v⊕(V2v⊕Unit)):=
 fun a=>let A:=a.2.2.2.2.2.2.2.2.1;let B:=a.2.2.2.2.2.2.1;let C:=p.cmp .geq A 0;let E:=p.nat A; opt.run _ (
 aK (p.cmp .lss A (p.ofNat (p.len a.2.2.1))) (
 nD (p.rowOk a.2.2.1 E [ci])<|
 nD C<|
 nD (p.rowOk B E [ci])<|
 nD C<|
 aK (p.cmp .neq (p.rdI a.2.2.1 E 0) (p.rdI B E 0)) (
 rT (eAm (eAs (false,())))) (
 rT (eAs (a.1,(a.2.1,(a.2.2.1,(a.2.2.2.1,(a.2.2.2.2.1,(a.2.2.2.2.2.1,(B,(a.2.2.2.2.2.2.2.1,((p.ar .add .i64 A 1),())))))))))))) (
 rT (eAm (eAm ()))))
def G77:(p:Prim)→V51v→Option (V2v):=
 fun p x=>let E:=x.2.2.2.2.2.1;let C:=x.2.2.2.2.2.2.1;let B:=x.2.2.2.2.2.2.2.1;let A:=(x.1,(x.2.1,(x.2.2.1,(x.2.2.2.1,(x.2.2.2.2.1,(E,(C,(B,(true,())))))))));
 opt.bnd ((Int×(Int×(LD×(Int×V34v))))) _ (
 opt.run ((Int×(Int×(LD×(Int×V34v))))) (
 aK (p.cmp .neq x.1 x.2.2.2.2.1) (
 rT A) (
 aK (p.cmp .neq x.2.1 E) (
 rT A) (
 aK (p.cmp .neq x.2.2.2.1 B) (
 rT A) (
 rT (x.1,(x.2.1,(x.2.2.1,(x.2.2.2.1,(x.2.2.2.2.1,(E,(C,(B,((p.cmp .neq (p.ofNat (p.len x.2.2.1)) (p.ofNat (p.len C))),())))))))))))))) fun a=>
 aK a.2.2.2.2.2.2.2.2.1 (
 rT (false,())) (
 opt.alt (V2v) (Unit) _ (
 z1a (w6t p) (a.1,(a.2.1,(a.2.2.1,(a.2.2.2.1,(a.2.2.2.2.1,(a.2.2.2.2.2.1,(a.2.2.2.2.2.2.1,(a.2.2.2.2.2.2.2.1,((0:Int),())))))))))) (fun b=>
 rT b) (fun c=>
 opt.bnd (Unit) _ (some c) fun d=>
 rT (true,())))
theorem t5e:CtrOk PG v77 (G77 std):=okF vE (a:=an77) (l:=la77) (gN)
def u4o:Ctr:=
 ⟨34,[.list 4, .list 4],[],[(.ret,⟨[(0, .bool)],[],1⟩)]⟩
def la34:List LA:=
 [⟨34,[fU,tU,fU,tU,tU],0,⟨⟨[(0, .list 4),(1, .list 4),(5, .int .i64)],[],27⟩,[(AX.ret,⟨[(4, .bool)],[],27⟩),((AX.exit 0),⟨[],[],27⟩)]⟩⟩]
def ja34:List JA:=
 []
def t2m:List CF:=
 [⟨v77,G77⟩]
def an34:Anns:=
 ⟨t2m,ja34,[]⟩
def v8j (p:Prim):V45v→Option (V45v⊕(V2v⊕Unit)):=
 fun a=>let A:=p.nat a.2.2.1;let B:=p.cmp .geq a.2.2.1 0;let C:=[ci,ci,(CK.list 1),ci]; opt.run _ (
 aK (p.cmp .lss a.2.2.1 (p.ofNat (p.len a.1))) (
 nD (p.rowOk a.1 A C)<|
 nD B<|
 nD (p.rowOk a.2.1 A C)<|
 nD B<|
 opt.bnd (V2v) _ (G77 p ((p.rdI a.1 A 0),((p.rdI a.1 A 1),((p.rdL a.1 A 2),((p.rdI a.1 A 3),((p.rdI a.2.1 A 0),((p.rdI a.2.1 A 1),((p.rdL a.2.1 A 2),((p.rdI a.2.1 A 3),()))))))))) fun b=>
 aK (bif b.1 then false else true) (
 rT (eAm (eAs (false,())))) (
 rT (eAs (a.1,(a.2.1,((p.ar .add .i64 a.2.2.1 1),())))))) (
 rT (eAm (eAm ()))))
def G34:(p:Prim)→V32v→Option (V2v):=
 fun p x=>
 aK (p.cmp .neq (p.ofNat (p.len x.1)) (p.ofNat (p.len x.2.1))) (
 rT (false,())) (
 opt.alt (V2v) (Unit) _ (
 z1a (v8j p) (x.1,(x.2.1,((0:Int),())))) (fun a=>
 rT a) (fun b=>
 opt.bnd (Unit) _ (some b) fun c=>
 rT (true,())))
theorem ok34:CtrOk PG u4o (G34 std):=okF vE (a:=an34) (l:=la34) (gC t5e (gN))
def u4t:Ctr:=
 ⟨15,[.list 4],[],[(.ret,⟨[(0, .bool)],[],1⟩)]⟩
def la15:List LA:=
 [⟨15,[fU,tU,fU,tU,tU],0,⟨⟨[(0, .list 4),(3, .int .i64)],[],20⟩,[(AX.ret,⟨[(2, .bool)],[],20⟩),((AX.exit 0),⟨[],[],20⟩)]⟩⟩]
def ja15:List JA:=
 []
def t2r:List CF:=
 []
def an15:Anns:=
 ⟨t2r,ja15,[]⟩
def w69 (p:Prim):V25v→Option (V25v⊕(V2v⊕Unit)):=
 fun a=>opt.run _ (
 aK (p.cmp .lss a.2.1 (p.ofNat (p.len a.1))) (
 nD (p.rowOk a.1 (p.nat a.2.1) [ci,ci,(CK.list 1),ci])<|
 nD (p.cmp .geq a.2.1 0)<|
 aK (p.cmp .gtr (p.ofNat (p.len (p.rdL a.1 (p.nat a.2.1) 2))) (10:Int)) (
 rT (eAm (eAs (true,())))) (
 rT (eAs (a.1,((p.ar .add .i64 a.2.1 1),()))))) (
 rT (eAm (eAm ()))))
def G15:(p:Prim)→V10v→Option (V2v):=
 fun p x=>
 aK (p.cmp .gtr (p.ofNat (p.len x.1)) (70:Int)) (
 rT (true,())) (
 opt.alt (V2v) (Unit) _ (
 z1a (w69 p) (x.1,((0:Int),()))) (fun a=>
 rT a) (fun b=>
 opt.bnd (Unit) _ (some b) fun c=>
 rT (false,())))
theorem ok15:CtrOk PG u4t (G15 std):=okF vE (a:=an15) (l:=la15) (gN)
def u4f:Ctr:=
 ⟨58,[.int .i64],[],[(.ret,⟨[(0, .bool)],[],1⟩)]⟩
def la58:List LA:=
 []
def ja58:List JA:=
 [⟨58,[fU,tU],0,[(AX.normal,⟨[(2, .bool)],[],9⟩)]⟩]
def t2a:List CF:=
 []
def an58:Anns:=
 ⟨t2a,ja58,[]⟩
def G58:(p:Prim)→V1v→Option (V2v):=
 fun p x=>
 opt.bnd (V2v) _ (
 opt.run (V2v) (
 aK (p.cmp .geq x.1 1) (
 rT ((p.cmp .leq x.1 1099511627776),())) (
 rT (false,())))) fun a=>
 rT a
theorem ok58:CtrOk PG u4f (G58 std):=okF vE (a:=an58) (l:=la58) (gN)
def u4e:Ctr:=
 ⟨59,[.int .i64],[],[(.ret,⟨[(0, .int .i64)],[],1⟩)]⟩
def la59:List LA:=
 []
def ja59:List JA:=
 [⟨59,[tU,fU,tU,tU,fU,tU,fU,tU],0,[(AX.normal,⟨[(3, .int .i64),(8, .bool)],[],13⟩)]⟩,
 ⟨59,[tU,tU,tU,fU,fU,tU,fU,tU],0,[(AX.normal,⟨[(3, .int .i64),(4, .bool)],[],13⟩)]⟩,
 ⟨59,[tU,fU,fU,tU,fU,tU],0,[(AX.normal,⟨[(3, .int .i64),(4, .bool)],[],13⟩)]⟩,
 ⟨59,[tU,fU,tU,fU,tU],0,[(AX.ret,⟨[(2, .int .i64)],[],13⟩),(AX.normal,⟨[],[],13⟩)]⟩,
 ⟨59,[tU,tU,tU,fU,tU,fU,tU],0,[(AX.ret,⟨[(2, .int .i64)],[],13⟩),(AX.normal,⟨[],[],13⟩)]⟩]
def t19:List CF:=
 []
def an59:Anns:=
 ⟨t19,ja59,[]⟩
def G59:(p:Prim)→V1v→Option (V1v):=
 fun p x=>let A:=(x.1,(true,()));
 opt.bnd (V24v) _ (
 opt.run (V24v) (
 aK (p.cmp .eql x.1 1) (
 rT A) (
 opt.bnd (V24v) _ (
 opt.run (V24v) (
 aK (p.cmp .eql x.1 2) (
 rT A) (
 rT (x.1,((p.cmp .eql x.1 5),()))))) fun a=>
 rT a))) fun b=>
 opt.alt (V1v) (Unit) _ (
 opt.run ((V1v⊕Unit)) (
 aK b.2.1 (
 rT (eAs ((1:Int),()))) (
 opt.bnd (V24v) _ (
 opt.run (V24v) (
 aK (p.cmp .eql b.1 3) (
 rT (b.1,(true,()))) (
 rT (b.1,((p.cmp .eql b.1 4),()))))) fun c=>
 opt.alt (V1v) (Unit) _ (
 opt.run ((V1v⊕Unit)) (
 aK c.2.1 (
 rT (eAs ((2:Int),()))) (
 aK (p.cmp .eql c.1 6) (
 rT (eAs ((3:Int),()))) (
 rT (eAm ()))))) (fun d=>
 rT (eAs d)) (fun e=>
 opt.bnd (Unit) _ (some e) fun f=>
 rT (eAm ()))))) (fun g=>
 rT g) (fun h=>
 opt.bnd (Unit) _ (some h) fun i=>
 rT ((0:Int),()))
theorem ok59:CtrOk PG u4e (G59 std):=okF vE (a:=an59) (l:=la59) (gN)
def u4d:Ctr:=
 ⟨60,[.int .i64, .int .i64],[],[(.ret,⟨[(0, .bool)],[],1⟩)]⟩
def la60:List LA:=
 []
def ja60:List JA:=
 [⟨60,[tU,tU,tU,fU,tU,fU,tU],0,[(AX.ret,⟨[(4, .bool)],[],40⟩),(AX.normal,⟨[(1, .int .i64)],[],40⟩)]⟩,
 ⟨60,[tU,tU,tU,tU,tU,fU,tU,fU,tU],0,[(AX.ret,⟨[(4, .bool)],[],40⟩),(AX.normal,⟨[(1, .int .i64)],[],40⟩)]⟩,
 ⟨60,[tU,fU,tU,fU,tU],0,[(AX.ret,⟨[(4, .bool)],[],40⟩),(AX.normal,⟨[(1, .int .i64)],[],40⟩)]⟩,
 ⟨60,[fU,fU,tU,tU,tU,fU,tU,fU,tU],0,[(AX.normal,⟨[(4, .bool)],[],40⟩)]⟩,
 ⟨60,[fU,fU,tU,tU,tU,tU,tU,tU,tU,fU,tU,fU,tU],0,[(AX.normal,⟨[(4, .bool)],[],40⟩)]⟩,
 ⟨60,[fU,fU,tU,tU,tU,tU,tU,fU,tU,fU,tU],0,[(AX.normal,⟨[(4, .bool)],[],40⟩)]⟩,
 ⟨60,[fU,fU,tU,fU,tU,fU,tU],0,[(AX.normal,⟨[(4, .bool)],[],40⟩)]⟩]
def t18:List CF:=
 []
def an60:Anns:=
 ⟨t18,ja60,[]⟩
def G60:(p:Prim)→V0v→Option (V2v):=
 fun p x=>let A:=p.cmp .geq x.2.1 1;let B:=((p.cmp .leq x.2.1 1000000),());
 opt.alt (V2v) (V1v) _ (
 opt.run ((V2v⊕V1v)) (
 aK (p.cmp .eql x.1 1) (
 opt.bnd (V2v) _ (
 opt.run (V2v) (
 aK A (
 rT B) (
 rT (false,())))) fun a=>
 rT (eAs a)) (
 opt.alt (V2v) (V1v) _ (
 opt.run ((V2v⊕V1v)) (
 aK (p.cmp .eql x.1 2) (
 opt.bnd (V2v) _ (
 opt.run (V2v) (
 aK A (
 rT ((p.cmp .leq x.2.1 10000),())) (
 rT (false,())))) fun b=>
 rT (eAs b)) (
 opt.alt (V2v) (V1v) _ (
 opt.run ((V2v⊕V1v)) (
 aK (p.cmp .eql x.1 3) (
 opt.bnd (V2v) _ (
 opt.run (V2v) (
 aK A (
 rT ((p.cmp .leq x.2.1 100000),())) (
 rT (false,())))) fun c=>
 rT (eAs c)) (
 aK (p.cmp .eql x.1 6) (
 opt.bnd (V2v) _ (
 opt.run (V2v) (
 aK (p.cmp .geq x.2.1 0) (
 rT B) (
 rT (false,())))) fun d=>
 rT (eAs d)) (
 rT (eAm x.2))))) (fun e=>
 rT (eAs e)) (fun f=>
 opt.bnd (V1v) _ (some f) fun g=>
 rT (eAm g))))) (fun h=>
 rT (eAs h)) (fun i=>
 opt.bnd (V1v) _ (some i) fun j=>
 rT (eAm j))))) (fun k=>
 rT k) (fun l=>
 opt.bnd (V1v) _ (some l) fun m=>
 rT ((p.cmp .eql m.1 0),()))
theorem ok60:CtrOk PG u4d (G60 std):=okF vE (a:=an60) (l:=la60) (gN)
def u4r:Ctr:=
 ⟨18,[.agg [.int .i64, .int .i64, .list 1, .int .i64]],[],[(.ret,⟨[(0, .int .i64)],[],1⟩)]⟩
def la18:List LA:=
 [⟨18,[fU,tU,fU,tU,tU,tU],0,⟨⟨[(1, .bptr 0 0),(3, .int .i64)],[o0m],66⟩,[(AX.ret,⟨[(2, .int .i64)],[],66⟩),((AX.exit 0),⟨[(1, .bptr 0 0)],[o0m],66⟩)]⟩⟩,
 ⟨18,[fU,tU,fU,tU,tU,tU,tU],0,⟨⟨[(1, .bptr 0 0),(4, .int .i64)],[o0m],66⟩,[(AX.ret,⟨[(2, .int .i64)],[],66⟩),((AX.exit 2),⟨[(1, .bptr 0 0)],[o0m],66⟩)]⟩⟩,
 ⟨18,[fU,tU,fU,fU,tU,fU,fU,tU,fU,tU,tU,tU,tU],0,⟨⟨[(1, .bptr 0 0),(4, .int .i64),(5, .int .i64)],[o0m],66⟩,[(AX.ret,⟨[(2, .int .i64)],[],66⟩),((AX.exit 4),⟨[(1, .bptr 0 0),(4, .int .i64)],[o0m],66⟩)]⟩⟩]
def ja18:List JA:=
 [⟨18,[fU,fU,tU],0,[(AX.normal,⟨[(1, .bptr 0 0),(15, .bool)],[o0m],66⟩)]⟩]
def t2p:List CF:=
 [⟨u4d,G60⟩,⟨u4e,G59⟩,⟨u4f,G58⟩]
def an18:Anns:=
 ⟨t2p,ja18,[]⟩
def w66 (p:Prim):V54v→Option (V54v⊕(V1v⊕V4v)):=
 fun a=>let A:=a.2.2.2.2.1;let B:=a.2.2.2.2.2.1;let C:=a.2.2.1; opt.run _ (
 aK (p.cmp .lss B A) (
 nD (p.rowOk C (p.nat A) [ci])<|
 nD (p.cmp .geq A 0)<|
 nD (p.rowOk C (p.nat B) [ci])<|
 nD (p.cmp .geq B 0)<|
 aK (p.cmp .eql (p.rdI C (p.nat A) 0) (p.rdI C (p.nat B) 0)) (
 rT (eAm (eAs ((16:Int),())))) (
 rT (eAs (a.1,(a.2.1,(C,(a.2.2.2.1,(A,((p.ar .add .i64 B 1),()))))))))) (
 rT (eAm (eAm (a.1,(a.2.1,(C,(a.2.2.2.1,(A,())))))))))
def w67 (p:Prim):V4v→Option (V4v⊕(V1v⊕V12v)):=
 fun a=>opt.run _ (
 aK (p.cmp .lss a.2.2.2.2.1 (p.ofNat (p.len a.2.2.1))) (
 opt.alt (V1v) (V4v) _ (
 z1a (w66 p) (a.1,(a.2.1,(a.2.2.1,(a.2.2.2.1,(a.2.2.2.2.1,((0:Int),()))))))) (fun b=>
 rT (eAm (eAs b))) (fun c=>
 opt.bnd (V4v) _ (some c) fun d=>
 rT (eAs (d.1,(d.2.1,(d.2.2.1,(d.2.2.2.1,((p.ar .add .i64 d.2.2.2.2.1 1),())))))))) (
 rT (eAm (eAm (a.1,(a.2.1,(a.2.2.1,(a.2.2.2.1,()))))))))
def w68 (p:Prim):V4v→Option (V4v⊕(V1v⊕V12v)):=
 fun a=>let A:=a.2.2.2.2.1;let B:=a.2.2.1; opt.run _ (
 aK (p.cmp .lss A (p.ofNat (p.len B))) (
 nD (p.rowOk B (p.nat A) [ci])<|
 nD (p.cmp .geq A 0)<|
 opt.bnd (V2v) _ (G58 p ((p.rdI B (p.nat A) 0),())) fun b=>
 aK (bif b.1 then false else true) (
 rT (eAm (eAs ((3:Int),())))) (
 rT (eAs (a.1,(a.2.1,(B,(a.2.2.2.1,((p.ar .add .i64 A 1),())))))))) (
 rT (eAm (eAm (a.1,(a.2.1,(B,(a.2.2.2.1,()))))))))
def G18:(p:Prim)→V12v→Option (V1v):=
 fun p x=>let A:=((0:Int),());
 opt.bnd (V34v) _ (
 opt.run (V34v) (
 opt.bnd (V2v) _ (G58 p (x.1,())) fun a=>
 aK (bif a.1 then false else true) (
 rT (x.1,(x.2.1,(x.2.2.1,(x.2.2.2.1,(true,())))))) (
 opt.bnd (V1v) _ (G59 p (x.2.1,())) fun b=>
 rT (x.1,(x.2.1,(x.2.2.1,(x.2.2.2.1,((p.cmp .eql b.1 0),())))))))) fun c=>
 aK c.2.2.2.2.1 (
 rT ((2:Int),())) (
 opt.bnd (V1v) _ (G59 p (c.2.1,())) fun d=>
 aK (p.cmp .neq (p.ofNat (p.len c.2.2.1)) d.1) (
 rT ((6:Int),())) (
 opt.alt (V1v) (V12v) _ (
 z1a (w68 p) (c.1,(c.2.1,(c.2.2.1,(c.2.2.2.1,A))))) (fun e=>
 rT e) (fun f=>
 opt.bnd (V12v) _ (some f) fun g=>
 opt.alt (V1v) (V12v) _ (
 z1a (w67 p) (g.1,(g.2.1,(g.2.2.1,(g.2.2.2.1,A))))) (fun h=>
 rT h) (fun i=>
 opt.bnd (V12v) _ (some i) fun j=>
 opt.bnd (V2v) _ (G60 p (j.2.1,j.2.2.2)) fun k=>
 aK (bif k.1 then false else true) (
 rT ((2:Int),())) (
 rT A)))))
theorem ok18:CtrOk PG u4r (G18 std):=okF vE (a:=an18) (l:=la18) (gC ok60 (gC ok59 (gC ok58 (gN))))
def u4p:Ctr:=
 ⟨20,[.list 4],[],[(.ret,⟨[(0, .int .i64)],[],1⟩)]⟩
def la20:List LA:=
 [⟨20,[fU,tU,fU,tU,tU],0,⟨⟨[(0, .list 4),(3, .int .i64)],[],48⟩,[(AX.ret,⟨[(2, .int .i64)],[],48⟩),((AX.exit 0),⟨[(0, .list 4)],[],48⟩)]⟩⟩,
 ⟨20,[fU,tU,fU,tU,tU,tU],0,⟨⟨[(0, .list 4),(4, .int .i64)],[],48⟩,[(AX.ret,⟨[(2, .int .i64)],[],48⟩),((AX.exit 2),⟨[],[],48⟩)]⟩⟩,
 ⟨20,[fU,tU,fU,fU,tU,fU,fU,tU,fU,tU,tU,tU],0,⟨⟨[(0, .list 4),(4, .int .i64),(5, .int .i64)],[],48⟩,[(AX.ret,⟨[(2, .int .i64)],[],48⟩),((AX.exit 4),⟨[(0, .list 4),(4, .int .i64)],[],48⟩)]⟩⟩]
def ja20:List JA:=
 []
def t2n:List CF:=
 [⟨u4r,G18⟩]
def an20:Anns:=
 ⟨t2n,ja20,[]⟩
def w64 (p:Prim):V18v→Option (V18v⊕(V1v⊕V25v)):=
 fun a=>let A:=[ci,ci,(CK.list 1),ci];let B:=a.2.2.1; opt.run _ (
 aK (p.cmp .lss B a.2.1) (
 nD (p.rowOk a.1 (p.nat a.2.1) A)<|
 nD (p.cmp .geq a.2.1 0)<|
 nD (p.rowOk a.1 (p.nat B) A)<|
 nD (p.cmp .geq B 0)<|
 aK (p.cmp .eql (p.rdI a.1 (p.nat a.2.1) 0) (p.rdI a.1 (p.nat B) 0)) (
 rT (eAm (eAs ((11:Int),())))) (
 rT (eAs (a.1,(a.2.1,((p.ar .add .i64 B 1),())))))) (
 rT (eAm (eAm (a.1,(a.2.1,()))))))
def w65 (p:Prim):V25v→Option (V25v⊕(V1v⊕Unit)):=
 fun a=>opt.run _ (
 aK (p.cmp .lss a.2.1 (p.ofNat (p.len a.1))) (
 opt.alt (V1v) (V25v) _ (
 z1a (w64 p) (a.1,(a.2.1,((0:Int),())))) (fun b=>
 rT (eAm (eAs b))) (fun c=>
 opt.bnd (V25v) _ (some c) fun d=>
 rT (eAs (d.1,((p.ar .add .i64 d.2.1 1),()))))) (
 rT (eAm (eAm ()))))
def w2k (p:Prim):V25v→Option (V25v⊕(V1v⊕V10v)):=
 fun a=>let B:=p.nat a.2.1;let A:=G18 p ((p.rdI a.1 B 0),((p.rdI a.1 B 1),((p.rdL a.1 B 2),((p.rdI a.1 B 3),()))));let C:=p.rowOk a.1 B [ci,ci,(CK.list 1),ci];let E:=p.cmp .geq a.2.1 0; opt.run _ (
 aK (p.cmp .lss a.2.1 (p.ofNat (p.len a.1))) (
 nD C<|
 nD E<|
 opt.bnd (V1v) _ A fun b=>
 aK (p.cmp .neq b.1 0) (
 nD C<|
 nD E<|
 opt.bnd (V1v) _ A fun c=>
 rT (eAm (eAs c))) (
 rT (eAs (a.1,((p.ar .add .i64 a.2.1 1),()))))) (
 rT (eAm (eAm (a.1,())))))
def G20:(p:Prim)→V10v→Option (V1v):=
 fun p x=>let A:=((0:Int),());
 aK (p.cmp .gtr (p.ofNat (p.len x.1)) (60:Int)) (
 rT ((6:Int),())) (
 opt.alt (V1v) (V10v) _ (
 z1a (w2k p) (x.1,A)) (fun a=>
 rT a) (fun b=>
 opt.bnd (V10v) _ (some b) fun c=>
 opt.alt (V1v) (Unit) _ (
 z1a (w65 p) (c.1,A)) (fun d=>
 rT d) (fun e=>
 opt.bnd (Unit) _ (some e) fun f=>
 rT A)))
theorem ok20:CtrOk PG u4p (G20 std):=okF vE (a:=an20) (l:=la20) (gC ok18 (gN))
def u3t:Ctr:=
 ⟨82,[.list 4, .list 4],[],[(.ret,⟨[(0, .int .i64)],[],1⟩)]⟩
def la82:List LA:=
 []
def ja82:List JA:=
 []
def t1u:List CF:=
 [⟨u4p,G20⟩]
def an82:Anns:=
 ⟨t1u,ja82,[]⟩
def G82:(p:Prim)→V32v→Option (V1v):=
 fun p x=>
 opt.bnd (V1v) _ (G20 p (x.1,())) fun a=>
 aK (p.cmp .neq a.1 0) (
 opt.bnd (V1v) _ (G20 p (x.1,())) fun b=>
 rT b) (
 opt.bnd (V1v) _ (G20 p x.2) fun c=>
 rT c)
theorem ok82:CtrOk PG u3t (G82 std):=okF vE (a:=an82) (l:=la82) (gC ok20 (gN))
def v02:Ctr:=
 ⟨93,[.list 4, .list 4],[],[(.ret,⟨[(0, .int .i64)],[],1⟩)]⟩
def la93:List LA:=
 [⟨93,[fU,tU,fU,tU,tU],0,⟨⟨[(0, .list 4),(1, .list 4),(5, .int .i64)],[],41⟩,[(AX.ret,⟨[(4, .int .i64)],[],41⟩),((AX.exit 0),⟨[],[],41⟩)]⟩⟩]
def ja93:List JA:=
 [⟨93,[fU,tU,fU,fU,tU,fU,tU,tU],0,[(AX.ret,⟨[(4, .int .i64)],[],41⟩),(AX.normal,⟨[(0, .list 4),(1, .list 4),(5, .int .i64)],[],41⟩)]⟩]
def t1p:List CF:=
 [⟨v77,G77⟩,⟨v07,G43⟩,⟨u3t,G82⟩]
def an93:Anns:=
 ⟨t1p,ja93,[]⟩
def x7o (p:Prim):V45v→Option (V45v⊕(V1v⊕Unit)):=
 fun a=>let A:=p.nat a.2.2.1;let B:=[ci,ci,(CK.list 1),ci];let E:=p.cmp .geq a.2.2.1 0; opt.run _ (
 aK (p.cmp .lss a.2.2.1 (p.ofNat (p.len a.1))) (
 opt.alt (V1v) (V45v) _ (
 opt.run ((V1v⊕V45v)) (
 nD (p.rowOk a.1 A B)<|
 nD E<|
 opt.bnd (V1v) _ (G43 p (a.2.1,((p.rdI a.1 A 0),()))) fun b=>let C:=p.nat b.1;let F:=p.cmp .geq b.1 0;
 aK F (
 nD (p.rowOk a.1 A B)<|
 nD E<|
 nD (p.rowOk a.2.1 C B)<|
 nD F<|
 opt.bnd (V2v) _ (G77 p ((p.rdI a.1 A 0),((p.rdI a.1 A 1),((p.rdL a.1 A 2),((p.rdI a.1 A 3),((p.rdI a.2.1 C 0),((p.rdI a.2.1 C 1),((p.rdL a.2.1 C 2),((p.rdI a.2.1 C 3),()))))))))) fun c=>
 aK (bif c.1 then false else true) (
 rT (eAs ((15:Int),()))) (
 rT (eAm a))) (
 rT (eAm a)))) (fun d=>
 rT (eAm (eAs d))) (fun e=>
 opt.bnd (V45v) _ (some e) fun f=>
 rT (eAs (f.1,(f.2.1,((p.ar .add .i64 f.2.2.1 1),())))))) (
 rT (eAm (eAm ()))))
def G93:(p:Prim)→V32v→Option (V1v):=
 fun p x=>
 opt.bnd (V1v) _ (G82 p x) fun a=>
 aK (p.cmp .neq a.1 0) (
 opt.bnd (V1v) _ (G82 p x) fun b=>
 rT b) (
 opt.alt (V1v) (Unit) _ (
 z1a (x7o p) (x.1,(x.2.1,((0:Int),())))) (fun c=>
 rT c) (fun d=>
 opt.bnd (Unit) _ (some d) fun e=>
 rT ((0:Int),())))
theorem u9f:CtrOk PG v02 (G93 std):=okF vE (a:=an93) (l:=la93) (gC t5e (gC u7r (gC ok82 (gN))))
def la94:List LA:=
 [⟨94,[fU,tU,fU,tU,tU],0,⟨⟨[(0, .list 4),(1, .list 4),(5, .sl 0 4),(6, .int .i64)],[o9m],32⟩,[((AX.exit 0),⟨[(5, .sl 0 4)],[o9m],32⟩)]⟩⟩]
def ja94:List JA:=
 [⟨94,[tU,fU,fU,tU,fU,fU,tU,fU,tU,tU],0,[(AX.normal,⟨[(0, .list 4),(1, .list 4),(5, .sl 0 4),(6, .int .i64)],[o9m],32⟩)]⟩]
def v7i:List CF:=
 [⟨v07,G43⟩]
def an94:Anns:=
 ⟨v7i,ja94,[]⟩
def w2b (p:Prim):V37v→Option (V37v⊕(LD×V11v)):=
 fun a=>let C:=a.2.2.1;let H:=a.2.2.2.2.2.1;let B:=p.nat H;let A:=[[(D.int .i64 (p.rdI C B 0)),(D.int .i64 (p.rdI C B 1)),(D.list (p.rdF C B 2 1) 1 (p.rdL C B 2)),(D.int .i64 (p.rdI C B 3))]];let E:=p.rowOk C B [ci,ci,(CK.list 1),ci];let F:=a.2.2.2.2.1;let G:=p.cmp .geq H 0; opt.run _ (
 aK (p.cmp .lss H (p.ofNat (p.len C))) (
 nD E<|
 nD G<|
 opt.bnd (V1v) _ (G43 p (a.2.1,((p.rdI C B 0),()))) fun b=>
 opt.bnd (V37v) _ (
 opt.run (V37v) (
 aK (p.cmp .lss b.1 0) (
 nD E<|
 nD G<|
 nD (p.and (p.leN (p.add 0 1) (p.len A)) (p.and (p.leN (p.add a.2.2.2.1 F) (p.len a.1)) (p.and (p.leN 1 1) (p.leN (p.add F 1) 1000000))))<|
 rT ((p.app (p.cut a.1 a.2.2.2.1 F) (p.cut A 0 1)),(a.2.1,(C,(0,((p.add F 1),a.2.2.2.2.2)))))) (
 rT a))) fun c=>
 rT (eAs (c.1,(c.2.1,(c.2.2.1,(c.2.2.2.1,(c.2.2.2.2.1,((p.ar .add .i64 c.2.2.2.2.2.1 1),())))))))) (
 rT (eAm (a.1,(a.2.2.2.1,(F,()))))))
def w2c (p:Prim):V37v→Option (V37v⊕(LD×V11v)):=
 fun a=>let C:=a.2.2.1;let H:=a.2.2.2.2.2.1;let B:=p.nat H;let A:=[[(D.int .i64 (p.rdI C B 0)),(D.int .i64 (p.rdI C B 1)),(D.list (p.rdF C B 2 1) 1 (p.rdL C B 2)),(D.int .i64 (p.rdI C B 3))]];let E:=p.rowOk C B [ci,ci,(CK.list 1),ci];let F:=a.2.2.2.2.1;let G:=p.cmp .geq H 0; opt.run _ (
 aK (p.cmp .lss H (p.ofNat (p.len C))) (
 nD E<|
 nD G<|
 opt.bnd (V1v) _ (G43 p (a.2.1,((p.rdI C B 0),()))) fun b=>
 opt.bnd (V37v) _ (
 opt.run (V37v) (
 aK (p.cmp .lss b.1 0) (
 nD E<|
 nD G<|
 nD (p.and (p.leN (p.add 0 1) (p.len A)) (p.and (p.leN (p.add a.2.2.2.1 F) (p.len a.1)) (p.and (p.leN 1 1) (p.leN (p.add F 1) 1000000))))<|
 rT ((p.app (p.cut a.1 a.2.2.2.1 F) (p.cut A 0 1)),(a.2.1,(C,(0,((p.add F 1),a.2.2.2.2.2)))))) (
 rT a))) fun c=>
 rT (eAs (c.1,(c.2.1,(c.2.2.1,(c.2.2.2.1,(c.2.2.2.2.1,((p.ar .add .i64 c.2.2.2.2.2.1 1),())))))))) (
 rT (eAm (a.1,(a.2.2.2.1,(F,()))))))
theorem t1k:GamOk PG (v7i):=by
 intro cf h
 simp only [v7i,eBa,eCl,or_false] at h
 rcases h with rfl
 ·exact u7r
theorem v0q:z3g PG 94:=enters_auto (b:=_) rfl (by kernel_rfl)
def v73:Ctr:=
 ⟨96,[.list 1],[],[(.ret,⟨[(0, .bool)],[],1⟩)]⟩
def la96:List LA:=
 [⟨96,[fU,tU,fU,tU],0,⟨⟨[(0, .list 1),(3, .int .i64)],[],17⟩,[(AX.ret,⟨[(2, .bool)],[],17⟩),((AX.exit 0),⟨[],[],17⟩)]⟩⟩]
def ja96:List JA:=
 []
def t1o:List CF:=
 []
def an96:Anns:=
 ⟨t1o,ja96,[]⟩
def w2a (p:Prim):V25v→Option (V25v⊕(V2v⊕Unit)):=
 fun a=>let A:=p.nat a.2.1;let B:=p.cmp .geq a.2.1 0; opt.run _ (
 aK (p.cmp .lss a.2.1 (p.ofNat (p.len a.1))) (
 nD (p.rowOk a.1 A [(CK.list 1)])<|
 nD B<|
 nD (p.rowOk (p.rdL a.1 A 0) A [CK.bool])<|
 nD B<|
 aK (p.rdB (p.rdL a.1 A 0) A 0) (
 rT (eAm (eAs (true,())))) (
 rT (eAs (a.1,((p.ar .add .i64 a.2.1 1),()))))) (
 rT (eAm (eAm ()))))
def G96:(p:Prim)→V10v→Option (V2v):=
 fun p x=>
 opt.alt (V2v) (Unit) _ (
 z1a (w2a p) (x.1,((0:Int),()))) (fun a=>
 rT a) (fun b=>
 opt.bnd (Unit) _ (some b) fun c=>
 rT (false,()))
theorem t5b:CtrOk PG v73 (G96 std):=okF vE (a:=an96) (l:=la96) (gN)
def u4b:Ctr:=
 ⟨69,[.list 4, .list 1],[],[(.ret,⟨[(0, .vec 0 4)],[o9m],1⟩)]⟩
def la69:List LA:=
 [⟨69,[fU,fU,tU,tU,tU],0,⟨⟨[(0, .list 4),(1, .list 1),(5, .full 0 1),(6, .vec 1 4)],o29m,83⟩,[((AX.exit 0),⟨[(6, .vec 0 4)],[o9m],83⟩)]⟩⟩,
 ⟨69,[fU,tU,fU,tU,fU,tU,fU,fU,fU,tU,tU,tU],0,⟨⟨[(0, .list 4),(1, .list 1),(5, .full 0 1),(6, .vec 1 4),(7, .int .i64),(8, .int .i64)],o29m,83⟩,[((AX.exit 2),⟨[(0, .list 4),(1, .list 1),(5, .full 0 1),(6, .vec 1 4),(7, .int .i64)],o29m,83⟩)]⟩⟩,
 ⟨69,[fU,tU,fU,tU,fU,fU,tU,fU,fU,tU,fU,tU,fU,tU,fU,fU,fU,tU,tU,tU],0,⟨⟨[(0, .list 4),(1, .list 1),(5, .full 0 1),(6, .vec 1 4),(7, .int .i64),(8, .int .i64),(9, .bool),(10, .int .i64)],o29m,83⟩,[((AX.exit 4),⟨[(0, .list 4),(1, .list 1),(5, .full 0 1),(6, .vec 1 4),(7, .int .i64),(8, .int .i64),(9, .bool)],o29m,83⟩)]⟩⟩]
def ja69:List JA:=
 [⟨69,[fU,fU,tU,fU,fU,tU,fU,tU,fU,fU,tU,fU,fU,tU,fU,tU,fU,tU,fU,fU,fU,tU,tU,tU],0,[(AX.normal,⟨[(0, .list 4),(1, .list 1),(5, .full 0 1),(6, .vec 1 4),(7, .int .i64),(8, .int .i64),(9, .bool),(10, .int .i64)],o29m,83⟩)]⟩,
 ⟨69,[tU,tU,tU,fU,fU,tU,fU,fU,tU,fU,tU,fU,tU,fU,fU,fU,tU,tU,tU],0,[(AX.normal,⟨[(0, .list 4),(1, .list 1),(5, .full 0 1),(6, .vec 1 4),(7, .int .i64),(8, .int .i64)],o29m,83⟩)]⟩,
 ⟨69,[fU,tU,fU,fU,tU,fU,tU,fU,tU,fU,fU,fU,tU,tU,tU],0,[(AX.normal,⟨[(0, .list 4),(1, .list 1),(5, .full 0 1),(6, .vec 1 4),(7, .int .i64),(8, .int .i64)],o29m,83⟩)]⟩]
def t15:List CF:=
 []
def an69:Anns:=
 ⟨t15,ja69,[]⟩
def x7q (p:Prim):V35v→Option (V35v⊕(LD×(LD×(LD×(LD×V48v))))):=
 fun a=>let A:=p.eqN (p.len a.1) (p.len a.1);let B:=a.2.2.2.2.2.2.2.1;let C:=p.eqN (p.len a.2.1) (p.len a.2.1);let E:=p.eqN 0 0;let F:=a.2.2.2.2.2.1;let G:=a.2.2.2.1;let I:=p.nat B;let J:=a.2.2.2.2.1;let K:=a.2.2.2.2.2.2.2;let L:=p.cmp .geq B 0;let M:=a.2.2.1; opt.run _ (
 aK (p.cmp .lss B (p.ofNat (p.len M))) (
 opt.bnd (V35v) _ (
 opt.run (V35v) (
 aK a.2.2.2.2.2.2.1 (
 nD (p.rowOk G I [(CK.list 1)])<|
 nD L<|
 nD (p.rowOk (p.rdL G I 0) (p.nat F) [CK.bool])<|
 nD (p.cmp .geq F 0)<|
 aK (bif (p.rdB (p.rdL G I 0) (p.nat F) 0) then false else true) (
 nD E<|
 nD A<|
 nD A<|
 nD E<|
 nD C<|
 rT (a.1,(a.2.1,(M,(G,(J,(F,(true,K)))))))) (
 nD (bif L then (p.cmp .lss B (p.ofNat (p.len a.1))) else false)<|
 nD (p.rowOk a.1 (p.add 0 I) [CK.bool])<|
 nD E<|
 nD A<|
 nD A<|
 nD E<|
 nD C<|
 rT (a.1,(a.2.1,(M,(G,(J,(F,((p.rdB a.1 (p.add 0 I) 0),K))))))))) (
 nD E<|
 nD A<|
 nD A<|
 nD E<|
 nD C<|
 rT (a.1,(a.2.1,(M,(G,(J,(F,(false,K)))))))))) fun b=>let H:=p.eqN (p.len b.1) (p.len b.1);
 nD E<|
 nD H<|
 nD H<|
 nD E<|
 nD (p.eqN (p.len b.2.1) (p.len b.2.1))<|
 rT (eAs (b.1,(b.2.1,(b.2.2.1,(b.2.2.2.1,(b.2.2.2.2.1,(b.2.2.2.2.2.1,(b.2.2.2.2.2.2.1,((p.ar .add .i64 b.2.2.2.2.2.2.2.1 1),())))))))))) (
 nD E<|
 nD A<|
 nD A<|
 nD E<|
 nD C<|
 rT (eAm (a.1,(a.2.1,(M,(G,(J,(F,(a.2.2.2.2.2.2.1,()))))))))))
def x2g (p:Prim):V28v→Option (V28v⊕(LD×(LD×V45v))):=
 fun a=>let B:=p.eqN 0 0;let F:=p.eqN (p.len a.1) (p.len a.1);let H:=a.2.2.2.2.2.1;let K:=p.len a.2.1;let P:=(0:Int);let R:=[ci,ci,(CK.list 1),ci]; opt.run _ (
 aK (p.cmp .lss H (p.ofNat (p.len a.2.2.1))) (
 opt.bnd (V28v) _ (
 opt.run (V28v) (
 nD (bif (p.cmp .geq H P) then (p.cmp .lss H (p.ofNat (p.len a.1))) else false)<|
 nD (p.rowOk a.1 (p.add 0 (p.nat H)) [CK.bool])<|
 nD B<|
 nD F<|
 nD F<|
 nD B<|
 nD (p.eqN K K)<|
 opt.bnd ((LD×(LD×(LD×(LD×V48v))))) _ (
 z1a (x7q p) (a.1,(a.2.1,(a.2.2.1,(a.2.2.2.1,(a.2.2.2.2.1,(H,((bif (p.rdB a.1 (p.add 0 (p.nat H)) 0) then false else true),(P,()))))))))) fun b=>let A:=p.eqN (p.len b.1) (p.len b.1);let C:=p.eqN (p.len b.2.1) (p.len b.2.1);let E:=b.2.2.2.2.2.1;let Q:=b.2.2.1;let J:=b.2.2.2.2.1;let G:=(b.1,(b.2.1,(Q,(b.2.2.2.1,(J,(E,()))))));let I:=(b.1,(b.2.1,(Q,(b.2.2.2.1,(E,(E,()))))));
 aK b.2.2.2.2.2.2.1 (
 aK (p.cmp .lss J P) (
 opt.bnd (V28v) _ (
 opt.run (V28v) (
 nD B<|
 nD A<|
 nD A<|
 nD B<|
 nD C<|
 rT I)) fun c=>let O:=p.eqN (p.len c.1) (p.len c.1);
 nD B<|
 nD O<|
 nD O<|
 nD B<|
 nD (p.eqN (p.len c.2.1) (p.len c.2.1))<|
 rT c) (
 nD (p.rowOk Q (p.nat E) R)<|
 nD (p.cmp .geq E P)<|
 nD (p.rowOk Q (p.nat J) R)<|
 nD (p.cmp .geq J P)<|
 opt.bnd (V28v) _ (
 opt.run (V28v) (
 aK (p.cmp .lss (p.rdI Q (p.nat E) 0) (p.rdI Q (p.nat J) 0)) (
 nD B<|
 nD A<|
 nD A<|
 nD B<|
 nD C<|
 rT I) (
 nD B<|
 nD A<|
 nD A<|
 nD B<|
 nD C<|
 rT G))) fun d=>let N:=p.eqN (p.len d.1) (p.len d.1);
 nD B<|
 nD N<|
 nD N<|
 nD B<|
 nD (p.eqN (p.len d.2.1) (p.len d.2.1))<|
 rT d)) (
 opt.bnd (V28v) _ (
 opt.run (V28v) (
 nD B<|
 nD A<|
 nD A<|
 nD B<|
 nD C<|
 rT G)) fun e=>let M:=p.eqN (p.len e.1) (p.len e.1);
 nD B<|
 nD M<|
 nD M<|
 nD B<|
 nD (p.eqN (p.len e.2.1) (p.len e.2.1))<|
 rT e))) fun f=>let L:=p.eqN (p.len f.1) (p.len f.1);
 nD B<|
 nD L<|
 nD L<|
 nD B<|
 nD (p.eqN (p.len f.2.1) (p.len f.2.1))<|
 rT (eAs (f.1,(f.2.1,(f.2.2.1,(f.2.2.2.1,(f.2.2.2.2.1,((p.ar .add .i64 f.2.2.2.2.2.1 1),())))))))) (
 nD B<|
 nD F<|
 nD F<|
 nD B<|
 nD (p.eqN K K)<|
 rT (eAm (a.1,(a.2.1,(a.2.2.1,(a.2.2.2.1,(a.2.2.2.2.1,()))))))))
def w6v (p:Prim):(LD×(LD×V32v))→Option ((LD×(LD×V32v))⊕V10v):=
 fun a=>let F:=p.len a.2.1;let H:=p.eqN 0 0;let K:=p.eqN (p.len a.1) (p.len a.1); opt.run _ (
 aK (p.cmp .lss (p.ofNat F) (p.ofNat (p.len a.2.2.1))) (
 nD H<|
 nD K<|
 nD K<|
 nD H<|
 nD (p.eqN F F)<|
 opt.bnd ((LD×(LD×V45v))) _ (
 z1a (x2g p) (a.1,(a.2.1,(a.2.2.1,(a.2.2.2.1,((-1:Int),((0:Int),()))))))) fun b=>let J:=b.2.2.1;let B:=p.nat b.2.2.2.2.1;let A:=[[(D.int .i64 (p.rdI J B 0)),(D.int .i64 (p.rdI J B 1)),(D.list (p.rdF J B 2 1) 1 (p.rdL J B 2)),(D.int .i64 (p.rdI J B 3))]];let C:=p.set b.1 (p.add 0 B) [(D.bool true)];let E:=p.len b.2.1;let G:=p.app (p.cut b.2.1 0 E) (p.cut A 0 1);let I:=p.cmp .geq b.2.2.2.2.1 0;let L:=p.eqN (p.len b.1) (p.len C);
 nD (bif I then (p.cmp .lss b.2.2.2.2.1 (p.ofNat (p.len b.1))) else false)<|
 nD (p.rowOk b.1 (p.add 0 B) [CK.bool])<|
 nD (p.rowOk J B [ci,ci,(CK.list 1),ci])<|
 nD I<|
 nD (p.and (p.leN (p.add 0 1) (p.len A)) (p.and (p.leN (p.add 0 E) E) (p.and (p.leN 1 1) (p.leN (p.add E 1) 1000000))))<|
 nD H<|
 nD L<|
 nD L<|
 nD H<|
 nD (p.eqN (p.add E 1) (p.len G))<|
 rT (eAs (C,(G,(J,(b.2.2.2.1,())))))) (
 nD H<|
 nD (p.eqN F F)<|
 rT (eAm (a.2.1,()))))
def G69:(p:Prim)→V32v→Option (V10v):=
 fun p x=>let A:=p.ofNat (p.len x.1);let B:=p.rep (p.nat A) [(D.bool false)];let C:=p.eqN (p.nat A) (p.len B);
 nD (p.and (p.cmp .geq A 0) (p.and (p.cmp .leq A A) (p.cmp .leq A 1000000)))<|
 nD (p.eqN 0 0)<|
 nD C<|
 nD C<|
 opt.bnd (V10v) _ (
 z1a (w6v p) (B,([],x))) fun a=>
 nD (p.eqN 0 0)<|
 nD (p.eqN (p.len a.1) (p.len a.1))<|
 rT a
theorem ok69:CtrOk PG u4b (G69 std):=okF vE (a:=an69) (l:=la69) (gN)
def v3x:Ctr:=
 ⟨104,[.list 4, .int .i64, .int .i64],[],[(.ret,⟨[(0, .bool)],[],1⟩)]⟩
def t0n:List LA:=
 []
def t04:List JA:=
 []
def u2b:List CF:=
 [⟨v8a,G44⟩,⟨v07,G43⟩]
def t4d:Anns:=
 ⟨u2b,t04,[]⟩
def v9n:(p:Prim)→V18v→Option (V2v):=
 fun p x=>let F:=[ci,ci,(CK.list 1),ci];
 opt.bnd (V1v) _ (G43 p (x.1,(x.2.1,()))) fun a=>let B:=p.nat a.1;let E:=p.cmp .geq a.1 0;
 opt.bnd (V1v) _ (G43 p (x.1,x.2.2)) fun b=>let A:=p.nat b.1;let C:=p.cmp .geq b.1 0;
 aK E (
 aK C (
 aK (p.cmp .lss a.1 b.1) (
 nD (p.rowOk x.1 B F)<|
 nD E<|
 nD (p.rowOk x.1 A F)<|
 nD C<|
 opt.bnd (V2v) _ (G44 p ((p.rdI x.1 B 0),((p.rdI x.1 B 1),((p.rdL x.1 B 2),((p.rdI x.1 B 3),((p.rdI x.1 A 0),((p.rdI x.1 A 1),((p.rdL x.1 A 2),((p.rdI x.1 A 3),()))))))))) fun c=>
 rT c) (
 rT (false,()))) (
 rT (false,()))) (
 rT (false,()))
theorem u9v:CtrOk PG v3x (v9n std):=okF vE (a:=t4d) (l:=t0n) (gC u9k (gC u7r (gN)))
def u4i:Ctr:=
 ⟨51,[.list 4, .list 4, .list 1],[],[(.ret,⟨[(0, .int .i64)],[],1⟩)]⟩
def la51:List LA:=
 [⟨51,[fU,tU,fU,tU,tU,tU],0,⟨⟨[(0, .list 4),(1, .list 4),(2, .list 1),(7, .int .i64)],[],65⟩,[(AX.ret,⟨[(6, .int .i64)],[],65⟩),((AX.exit 0),⟨[(2, .list 1)],[],65⟩)]⟩⟩]
def ja51:List JA:=
 [⟨51,[fU,fU,tU,tU],0,[(AX.normal,⟨[(0, .list 4),(1, .list 4),(2, .list 1),(22, .bool)],[],65⟩)]⟩,
 ⟨51,[fU,tU,fU,fU,tU,fU,tU,tU,tU],0,[(AX.ret,⟨[(6, .int .i64)],[],65⟩),(AX.normal,⟨[(0, .list 4),(1, .list 4),(2, .list 1),(7, .int .i64)],[],65⟩)]⟩]
def t2e:List CF:=
 [⟨v3x,v9n⟩,⟨v02,G93⟩]
def an51:Anns:=
 ⟨t2e,ja51,[]⟩
def x7r (p:Prim):(LD×V45v)→Option ((LD×V45v)⊕(V1v⊕V10v)):=
 fun a=>let C:=a.2.2.2.1;let A:=p.ar .sub .i64 C 1;let E:=a.2.2.1;let B:=((p.rdI E (p.nat A) 0),((p.rdI E (p.nat C) 0),()));let F:=p.rowOk E (p.nat C) [ci];let G:=p.rowOk E (p.nat A) [ci];let H:=p.cmp .geq C 0;let I:=p.cmp .geq A 0; opt.run _ (
 aK (p.cmp .lss C (p.ofNat (p.len E))) (
 opt.alt (V1v) ((LD×V45v)) _ (
 opt.run ((V1v⊕(LD×V45v))) (
 nD G<|
 nD I<|
 nD F<|
 nD H<|
 opt.bnd (V2v) _ (v9n p (a.1,B)) fun b=>
 aK (bif b.1 then false else true) (
 nD G<|
 nD I<|
 nD F<|
 nD H<|
 opt.bnd (V2v) _ (v9n p (a.2.1,B)) fun c=>
 aK (bif c.1 then false else true) (
 rT (eAs ((14:Int),()))) (
 rT (eAm a))) (
 rT (eAm a)))) (fun d=>
 rT (eAm (eAs d))) (fun e=>
 opt.bnd ((LD×V45v)) _ (some e) fun f=>
 rT (eAs (f.1,(f.2.1,(f.2.2.1,((p.ar .add .i64 f.2.2.2.1 1),()))))))) (
 rT (eAm (eAm (E,())))))
def G51:(p:Prim)→(LD×V32v)→Option (V1v):=
 fun p x=>let B:=(0:Int);let C:=G93 p (x.1,(x.2.1,()));let E:=p.ofNat (p.len x.2.2.1);
 opt.bnd (V1v) _ C fun a=>
 aK (p.cmp .neq a.1 B) (
 opt.bnd (V1v) _ C fun b=>
 rT b) (
 opt.bnd (V50v) _ (
 opt.run (V50v) (
 aK (p.cmp .lss E 3) (
 rT (x.1,(x.2.1,(x.2.2.1,(true,()))))) (
 rT (x.1,(x.2.1,(x.2.2.1,((p.cmp .gtr E 4096),()))))))) fun c=>
 aK c.2.2.2.1 (
 rT ((6:Int),())) (
 opt.alt (V1v) (V10v) _ (
 z1a (x7r p) (c.1,(c.2.1,(c.2.2.1,((1:Int),()))))) (fun d=>
 rT d) (fun e=>
 opt.bnd (V10v) _ (some e) fun f=>let A:=p.ar .sub .i64 (p.ofNat (p.len f.1)) (1:Int);
 nD (p.rowOk f.1 (p.nat B) [ci])<|
 nD (p.rowOk f.1 (p.nat A) [ci])<|
 nD (p.cmp .geq A B)<|
 aK (p.cmp .neq (p.rdI f.1 (p.nat B) 0) (p.rdI f.1 (p.nat A) 0)) (
 rT ((14:Int),())) (
 rT (B,())))))
theorem ok51:CtrOk PG u4i (G51 std):=okF vE (a:=an51) (l:=la51) (gC u9v (gC u9f (gN)))
def y7n:Ctr:=
 ⟨94,[.list 4, .list 4],[],[(.ret,⟨[(0, .list 4)],[],1⟩)]⟩
def v9l:(p:Prim)→V32v→Option (V10v):=
 fun p x=>let C:=p.add 0 (p.len x.1);let A:=(x.1,(x.2.1,(0,(C,((0:Int),())))));let B:=p.leN (p.add 0 0) (p.len []);let E:=p.splice [] (p.add 0 0) x.1;
 aK (p.leN C 0) (
 nD (p.and true (p.and B B))<|
 nD (p.leN (p.add 0 0) (p.len E))<|
 opt.bnd ((LD×V11v)) _ (
 z1a (w2c p) (E,A)) fun a=>
 nD (p.leN (p.add a.2.1 a.2.2.1) (p.len a.1))<|
 rT ((p.cut a.1 a.2.1 a.2.2.1),())) (
 nD (p.and true (p.and B (p.and (p.leN 1 (p.len x.1)) (p.leN C 1000000))))<|
 opt.bnd ((LD×V11v)) _ (
 z1a (w2b p) ((p.app (p.cut [] 0 0) x.1),A)) fun b=>
 nD (p.leN (p.add b.2.1 b.2.2.1) (p.len b.1))<|
 rT ((p.cut b.1 b.2.1 b.2.2.1),()))
def t4v:Prim→Tup (y7n).scs→Option (STup (scss (y7n).outs)):=
 fun p x=>v9l p x
theorem t2y (p:Prim) (x:Tup (y7n).scs):bodyRun opt p (autoEnvE [] PG) (mkOrc opt p (autoEnvE [] PG) 400 (an94) la94) 400 y7n x=v9l p x:=by kernel_rfl
theorem u0m:CtrOk PG y7n (t4v std):=ctr_of_body (autoEnvE_ok follows_mixed) (mkOrc_ok (autoEnvE_ok follows_mixed) t1k _) v0q (fun x=>t2y std x)
end Go.Am
end
section
namespace Go.Am.D12
structure Cd where
 n:Int
 k:Int
 t:List Int
 a:Int
 deriving DecidableEq,Inhabited
def tch (c d:Cd):Bool:=c.t.any fun x=>d.t.contains x
theorem y3i {c d:Cd}:tch c d=true↔∃ x,x∈c.t∧x∈d.t:=by
 simp [tch]
theorem w8s (c d:Cd):tch c d=tch d c:=by
 rw [eBu,y3i,y3i]
 constructor<;>rintro ⟨x,b,a⟩<;>exact ⟨x,a,b⟩
def w9k:List Cd→Option Cd
 |[]=>none
 |c::l=>match w9k l with
  |none=>some c
  |some d=>if d.n<c.n then some d else some c
theorem y6x {l:List Cd}:w9k l=none↔l=[]:=by
 cases l with
 |nil=>simp [w9k]
 |cons c l=>
  simp only [w9k,reduceCtorEq,iff_false]
  split
  ·simp
  ·split<;>simp
theorem y6w {l:List Cd} {c:Cd} (h:w9k l=some c):c∈l∧∀ d∈l,c.n≤d.n:=by
 induction l generalizing c with
 |nil=>cases h
 |cons x l f=>
  simp only [w9k] at h
  split at h
  ·rename_i a
   cases h
   have:=y6x.1 a
   subst this
   simp
  ·rename_i d a
   obtain ⟨g,b⟩:=f a
   split at h
   ·cases h
    refine ⟨eCq _ g,fun e he=>?_⟩
    rcases eBa.1 he with rfl|he
    ·omega
    ·exact b e he
   ·cases h
    refine ⟨eBv,fun e he=>?_⟩
    rcases eBa.1 he with rfl|he
    ·omega
    ·have:=b e he; omega
def Inj (l:List Cd):Prop:=∀ x∈l,∀ y∈l,x.n=y.n→x=y
theorem Inj.sub {l m:List Cd} (h:Inj l) (a:∀ x∈m,x∈l):Inj m:=fun x c y b e=>h x (a x c) y (a y b) e
theorem v6a {l:List Cd} {c:Cd} (e:Inj l):w9k l=some c↔c∈l∧∀ d∈l,c.n≤d.n:=by
 refine ⟨y6w,fun ⟨a,g⟩=>?_⟩
 cases h:w9k l with
 |none=>rw [y6x.1 h] at a; cases a
 |some d=>
  obtain ⟨b,f⟩:=y6w h
  have:=g d b
  have:=f c a
  rw [e c a d b (by omega)]
section
variable (R:Cd→Cd→Bool)
def z4c (rem:List Cd) (c:Cd):Bool:=rem.all fun d=>!R d c
theorem z5c {rem:List Cd} {c:Cd}:z4c R rem c=true↔∀ d∈rem,R d c=false:=by
 simp [z4c]
def x2f (rem:List Cd):Option Cd:=w9k (rem.filter (z4c R rem))
theorem x2e {rem:List Cd} {c:Cd} (i:Inj rem):x2f R rem=some c↔c∈rem∧(∀ d∈rem,R d c=false)∧∀ d∈rem,(∀ e∈rem,R e d=false)→c.n≤d.n:=by
 unfold x2f
 rw [v6a (i.sub fun x h=>(eDb.1 h).1)]
 simp only [eDb,z5c]
 constructor
 ·rintro ⟨⟨g,f⟩,b⟩
  exact ⟨g,f,fun d a he=>b d ⟨a,he⟩⟩
 ·rintro ⟨g,f,b⟩
  exact ⟨⟨g,f⟩,fun d a=>b d a.1 a.2⟩
theorem w6p {rem:List Cd}:x2f R rem=none↔∀ c∈rem,∃ d∈rem,R d c=true:=by
 unfold x2f
 rw [y6x,List.filter_eq_nil_iff]
 simp [z4c]
def rm (c:Cd) (l:List Cd):List Cd:=l.filter fun d=>!decide (d=c)
theorem y0f {c d:Cd} {l:List Cd}:d∈rm c l↔d∈l∧d≠c:=by simp [rm]
theorem y6h {c:Cd} {l:List Cd} (a:l.Nodup) (f:c∈l):(rm c l).length+1=l.length:=by
 induction l with
 |nil=>cases f
 |cons x l g=>
  obtain ⟨i,a⟩:=eGm.1 a
  by_cases e:x=c
  ·subst e
   have:rm x (x::l)=l:=by
    simp only [rm,List.filter_cons,decide_true,eCp,eAh,if_false]
    rw [List.filter_eq_self]
    intro d j
    have:d≠x:=fun e=>i (e▸j)
    simp [this]
   rw [this]; rfl
  ·have b:c∈l:=by
    rcases eBa.1 f with h|h
    ·exact absurd h.symm e
    ·exact h
   have:=g a b
   have k:rm c (x::l)=x::rm c l:=by simp [rm,List.filter_cons,e]
   rw [k,eCa,eCa,this]
def lst:Nat→List Cd→List Cd
 |0,_=>[]
 |f+1,rem=>match x2f R rem with
  |none=>[]
  |some c=>c::lst f (rm c rem)
theorem v6d (f:Nat) (rem:List Cd):∀ x∈lst R f rem,x∈rem:=by
 induction f generalizing rem with
 |zero=>intro x a; cases a
 |succ f b=>
  intro x a
  simp only [lst] at a
  split at a
  ·cases a
  ·rename_i c d
   rcases eBa.1 a with rfl|a
   ·exact (eDb.1 (y6w d).1).1
   ·exact (y0f.1 (b _ x a)).1
def Lin (l:List Cd):Prop:=l.Pairwise (fun x y=>R y x=false)∧∀ x∈l,R x x=false
theorem Lin.filter {R:Cd→Cd→Bool} {l:List Cd} (h:Lin R l) (p:Cd→Bool):Lin R (l.filter p):=
 ⟨h.1.filter p,fun x a=>h.2 x (eDb.1 a).1⟩
theorem x6j {l m:List Cd} (b:l.Nodup) (a:m.Nodup) (h:∀ x,x∈l↔x∈m):l.Perm m:=(List.perm_ext_iff_of_nodup b a).2 h
end
def ord (l:List Cd) (x y:Cd):Bool:=tch x y&&decide (l.idxOf x<l.idxOf y)
theorem z6k {l:List Cd} {x y:Cd}:ord l x y=true↔tch x y=true∧l.idxOf x<l.idxOf y:=by simp [ord]
theorem w3w {P:Cd→Cd→Prop} {l:List Cd} (b:l.Nodup) (h:∀ x∈l,∀ y∈l,l.idxOf x<l.idxOf y→P x y):l.Pairwise P:=by
 rw [eFi]
 intro i j d c a
 refine h _ (eDe _) _ (eDe _) ?_
 rw [b.idxOf_getElem,b.idxOf_getElem]; exact a
def Eqv (a b:List Cd):Prop:=a.Perm b∧∀ x∈a,∀ y∈a,ord a x y=ord b x y
theorem Eqv.refl (a:List Cd):Eqv a a:=⟨.refl a,fun _ _ _ _=>rfl⟩
theorem Eqv.symm {a b:List Cd} (h:Eqv a b):Eqv b a:=⟨h.1.symm,fun x d y c=>(h.2 x (h.1.mem_iff.2 d) y (h.1.mem_iff.2 c)).symm⟩
theorem Eqv.trans {a b c:List Cd} (h:Eqv a b) (k:Eqv b c):Eqv a c:=⟨h.1.trans k.1,fun x e y d=>(h.2 x e y d).trans (k.2 x (h.1.mem_iff.1 e) y (h.1.mem_iff.1 d))⟩
theorem w38 {l:List Cd} {x y:Cd} (h:ord l x y=true):ord l y x=false:=by
 have:=(z6k.1 h).2
 have:¬ l.idxOf y<l.idxOf x:=by omega
 simp [ord,this]
theorem v2x {l:List Cd} {x y:Cd} (h:ord l x y=true):x≠y:=fun e=>by
 have:=(z6k.1 h).2; rw [e] at this; omega
theorem u1n {p q:List Cd} {x:Cd} (a:x∉p):(p++x::q).idxOf x=p.length:=by
 rw [List.idxOf_append,if_neg a]; simp
def on (x:Int) (l:List Cd):List Cd:=l.filter fun c=>c.t.contains x
theorem y2r {x:Int} {l:List Cd} {c:Cd}:c∈on x l↔c∈l∧x∈c.t:=by simp [on]
theorem v2v {x:Int} {l m:List Cd} {c d:Cd} (b:c∈on x l) (a:d∈on x m):tch c d=true:=y3i.2 ⟨x,(y2r.1 b).2,(y2r.1 a).2⟩
theorem x3s {P:Cd→Cd→Prop} (d:∀ x y,P x y→¬ P y x):∀ {l m:List Cd},l.Perm m→l.Pairwise P→m.Pairwise P→l=m
 |[],m,h,_,_=>by rw [List.nil_perm.1 h]
 |x::l,m,h,g,f=>by
  cases m with
  |nil=>exact absurd h.length_eq (by simp)
  |cons y m=>
   have b:x=y:=by
    have c:x∈y::m:=h.mem_iff.1 eBv
    have a:y∈x::l:=h.mem_iff.2 eBv
    rcases eBa.1 c with e|c
    ·exact e
    ·rcases eBa.1 a with e|a
     ·exact e.symm
     ·exact absurd ((eDi.1 g).1 y a) (d _ _ ((eDi.1 f).1 x c))
   subst b
   rw [x3s d (List.perm_cons _|>.1 h) (eDi.1 g).2 (eDi.1 f).2]
theorem w5d {l:List Cd} (a:l.Nodup):l.Pairwise fun x y=>l.idxOf x<l.idxOf y:=w3w a fun _ _ _ _ h=>h
theorem Eqv.on {a b:List Cd} (h:Eqv a b) (k:a.Nodup) (x:Int):on x a=on x b:=by
 have n:b.Nodup:=h.1.nodup_iff.1 k
 have m:(D12.on x a).Perm (D12.on x b):=h.1.filter _
 refine x3s (P:=fun c d=>ord a c d=true) (fun c d o l=>by rw [w38 o] at l; cases l) m ?_ ?_
 ·refine ((w5d k).filter _).imp_of_mem ?_
  intro c d g f e
  exact z6k.2 ⟨v2v g f,e⟩
 ·refine ((w5d n).filter _).imp_of_mem ?_
  intro c d g f e
  have j:=(y2r.1 g).1
  have i:=(y2r.1 f).1
  rw [h.2 c (h.1.mem_iff.2 j) d (h.1.mem_iff.2 i)]
  exact z6k.2 ⟨v2v g f,e⟩
def z30 (k:Int):Nat:=if k=1∨k=2∨k=5 then 1 else if k=3∨k=4 then 2 else if k=6 then 3 else 0
def w8a (k a:Int):Prop:=(k=1∧1≤a∧a≤1000000)∨(k=2∧1≤a∧a≤10000)∨(k=3∧1≤a∧a≤100000)∨(k=6∧0≤a∧a≤1000000)∨((k=4∨k=5)∧a=0)
instance t3f (k a:Int):Decidable (w8a k a):=by unfold w8a; infer_instance
def z7h (x:Int):Prop:=1≤x∧x≤1099511627776
instance u7x (x:Int):Decidable (z7h x):=by unfold z7h; infer_instance
def z3n (c:Cd):Int:=
 if ¬ z7h c.n∨z30 c.k=0 then 2
 else if c.t.length≠z30 c.k then 6
 else if ∃ x∈c.t,¬ z7h x then 3
 else if ¬ c.t.Nodup then 16
 else if ¬ w8a c.k c.a then 2 else 0
theorem x7m {c:Cd}:z3n c=0↔z7h c.n∧z30 c.k≠0∧c.t.length=z30 c.k∧(∀ x∈c.t,z7h x)∧c.t.Nodup∧w8a c.k c.a:=by
 unfold z3n
 constructor
 ·intro h
  repeat' split at h
  all_goals first|(exfalso; omega)|skip
  rename_i b f j e d
  simp only [not_or,Decidable.not_not] at b f e d
  refine ⟨b.1,b.2,f,fun x g=>eDq fun i=>j ⟨x,g,i⟩,e,d⟩
 ·rintro ⟨b,f,j,e,d,l⟩
  rw [if_neg (by simp only [not_or,Decidable.not_not]; exact ⟨b,f⟩),if_neg (by simpa using j),if_neg (by rintro ⟨x,g,i⟩; exact i (e x g)),if_neg (by simpa using d),if_neg (by simpa using l)]
def z13 (l:List Cd):Int:=
 if 60<l.length then 6
 else match l.find? fun c=>!decide (z3n c=0) with
  |some c=>z3n c
  |none=>if (l.map (·.n)).Nodup then 0 else 11
theorem x7g {l:List Cd}:z13 l=0↔l.length≤60∧(∀ c∈l,z3n c=0)∧(l.map (·.n)).Nodup:=by
 unfold z13
 split
 ·constructor
  ·intro h; omega
  ·intro h; omega
 ·rename_i f
  split
  ·rename_i c a
   have e:=eFj a
   have g:=eCv a
   simp at e
   constructor
   ·intro h; exact absurd h e
   ·intro h; exact absurd (h.2.1 c g) e
  ·rename_i a
   rw [eFn] at a
   have d:∀ c∈l,z3n c=0:=fun c h=>by simpa using a c h
   split
   ·rename_i b; exact ⟨fun _=>⟨by omega,d,b⟩,fun _=>rfl⟩
   ·rename_i b; exact ⟨fun h=>by omega,fun h=>absurd h.2.2 b⟩
theorem z3k {l:List Cd} (h:(l.map (·.n)).Nodup):l.Nodup:=by
 rw [List.nodup_iff_pairwise_ne] at h⊢
 rw [List.pairwise_map] at h
 exact h.imp fun h e=>h (by rw [e])
theorem z2f {l:List Cd} (h:(l.map (·.n)).Nodup):Inj l:=by
 intro x b y a e
 obtain ⟨i,d,rfl⟩:=eBs.1 b
 obtain ⟨j,c,rfl⟩:=eBs.1 a
 have:=(List.getElem_inj (xs:=l.map (·.n)) (i:=i) (j:=j) (h₀:=by simpa using d) (h₁:=by simpa using c) h).1 (by simpa using e)
 subst this; rfl
structure Th where
 num:Int
 val:Int
 hrs:Int
 out:Bool
 deriving DecidableEq,Inhabited
def fnd (b:List Th) (x:Int):Option Th:=b.find? fun t=>decide (t.num=x)
def upd (b:List Th) (x:Int) (f:Th→Th):List Th:=b.map fun t=>if t.num=x then f t else t
def x0 (c:Cd):Int:=c.t.getD 0 0
def x1 (c:Cd):Int:=c.t.getD 1 0
def x2 (c:Cd):Int:=c.t.getD 2 0
abbrev Sf:=Int→Option Th
def v9y (s:Sf) (x:Int):Int:=match s x with
 |none=>5
 |some t=>if t.out then 9 else 0
def x6t (s:Sf):List Int→Int
 |[]=>0
 |x::l=>if v9y s x=0 then x6t s l else v9y s x
def needs (c:Cd):List Int:=if c.k=3∨c.k=6 then c.t else c.t.take 1
def w74 (s:Sf) (x:Int):Int:=((s x).map (·.val)).getD 0
def hrsS (s:Sf) (x:Int):Int:=((s x).map (·.hrs)).getD 0
def errC (s:Sf) (c:Cd):Int:=
 if c.k=1 then (if (s (x0 c)).isSome then 11 else 0)
 else if x6t s (needs c)≠0 then x6t s (needs c)
 else if c.k=2 then (if 10000<hrsS s (x0 c)+c.a then 4 else 0)
 else if c.k=3 then (if (w74 s (x1 c)*c.a).tdiv 1000<1∨1000000<(w74 s (x1 c)*c.a).tdiv 1000 then 4 else 0)
 else if c.k=4 then (if (s (x1 c)).isSome then 11 else 0)
 else if c.k=5 then 0
 else if c.a<w74 s (x0 c)+w74 s (x1 c) - w74 s (x2 c)∨c.a< -(w74 s (x0 c)+w74 s (x1 c) - w74 s (x2 c)) then 23 else 0
def t42 (s:Sf) (c:Cd) (t:Th):Th:=
 if c.k=2 then { t with hrs:=t.hrs+c.a }
 else if c.k=3 then { t with val:=(w74 s (x1 c)*c.a).tdiv 1000 }
 else if c.k=4∨c.k=5 then { t with out:=true }
 else t
def after (s:Sf) (c:Cd):Sf:=
 if errC s c≠0 then s
 else if c.k=1 then fun y=>if y=x0 c then some ⟨x0 c,c.a,0,false⟩ else s y
 else if c.k=4 then fun y=>if y=x1 c then some ⟨x1 c,w74 s (x0 c),0,false⟩ else if y=x0 c then (s y).map (t42 s c) else s y
 else fun y=>if y=x0 c then (s y).map (t42 s c) else s y
def st (l:List Cd):Sf:=l.foldl after fun _=>none
theorem y6y {k:Int} (h:z30 k≠0):((k=1∨k=2∨k=5)∧z30 k=1)∨((k=3∨k=4)∧z30 k=2)∨(k=6∧z30 k=3):=by
 unfold z30 at h⊢
 split
 ·rename_i c; exact .inl ⟨c,rfl⟩
 ·rename_i c
  split
  ·rename_i b; exact .inr (.inl ⟨b,rfl⟩)
  ·rename_i b
   split
   ·rename_i a; exact .inr (.inr ⟨a,rfl⟩)
   ·rename_i a; rw [if_neg c,if_neg b,if_neg a] at h; exact absurd rfl h
theorem w4c (x:Int) (p q:List Cd):on x (p++q)=on x p++on x q:=by simp [on]
theorem v5r {x:Int} {e:Cd} (h:x∈e.t) (q:List Cd):on x (e::q)=e::on x q:=by simp [on,h]
theorem w4b {x:Int} {p:List Cd} {c:Cd} (h:c∈on x p):c∈p:=(y2r.1 h).1
def v7a (x:Int):List Int→List Int
 |[]=>[x]
 |y::l=>if x≤y then x::y::l else y::v7a x l
def srt:List Int→List Int
 |[]=>[]
 |x::l=>v7a x (srt l)
theorem x38 (x:Int) (l:List Int):(v7a x l).Perm (x::l):=by
 induction l with
 |nil=>exact .refl _
 |cons y l a=>
  simp only [v7a]
  split
  ·exact .refl _
  ·exact (List.Perm.cons y a).trans (List.Perm.swap x y l)
theorem srt_perm (l:List Int):(srt l).Perm l:=by
 induction l with
 |nil=>exact .refl _
 |cons x l a=>exact (x38 x _).trans (List.Perm.cons x a)
theorem x62 {x:Int} {l:List Int} (h:l.Pairwise (· ≤ ·)):(v7a x l).Pairwise (· ≤ ·):=by
 induction l with
 |nil=>simp [v7a]
 |cons y l d=>
  obtain ⟨c,e⟩:=eDi.1 h
  simp only [v7a]
  split
  ·rename_i b
   refine eDi.2 ⟨fun z a=>?_,h⟩
   rcases eBa.1 a with rfl|a
   ·exact b
   ·exact Int.le_trans b (c z a)
  ·rename_i b
   refine eDi.2 ⟨fun z a=>?_,d e⟩
   rcases eBa.1 ((x38 x l).mem_iff.1 a) with rfl|a
   ·omega
   ·exact c z a
theorem y0y (l:List Int):(srt l).Pairwise (· ≤ ·):=by
 induction l with
 |nil=>exact .nil
 |cons x l a=>exact x62 a
theorem y1u:∀ {l m:List Int},l.Perm m→l.Pairwise (· ≤ ·)→m.Pairwise (· ≤ ·)→l=m
 |[],m,h,_,_=>by rw [List.nil_perm.1 h]
 |x::l,m,h,i,g=>by
  cases m with
  |nil=>exact absurd h.length_eq (by simp)
  |cons y m=>
   have d:x=y:=by
    have f:x∈y::m:=h.mem_iff.1 eBv
    have c:y∈x::l:=h.mem_iff.2 eBv
    have a:y≤x:=by
     rcases eBa.1 f with e|f
     ·omega
     ·exact (eDi.1 g).1 x f
    have b:x≤y:=by
     rcases eBa.1 c with e|c
     ·omega
     ·exact (eDi.1 i).1 y c
    omega
   subst d
   rw [y1u (List.perm_cons _|>.1 h) (eDi.1 i).2 (eDi.1 g).2]
theorem w3o {l m:List Int} (h:l.Perm m):srt l=srt m:=y1u ((srt_perm l).trans (h.trans (srt_perm m).symm)) (y0y l) (y0y m)
theorem srt_of {l m:List Int} (h:l.Perm m) (a:l.Pairwise (· ≤ ·)):l=srt m:=y1u (h.trans (srt_perm m).symm) a (y0y m)
end Go.Am.D12
end
section
namespace Go.Am
open Go.Sort
variable {P:Program}
def z2n (l:List Int):List (List D):=l.map fun n=>[.int .i64 n]
def y6q:List (List D)→Option (List Int)
 |[]=>some []
 |[.int .i64 n]::l=>match y6q l with
  |some r=>some (n::r)
  |none=>none
 |_=>none
theorem y5a:∀ {es:List (List D)} {xs:List Int},y6q es=some xs→es=z2n xs
 |[],xs,h=>by cases h; rfl
 |r::l,xs,h=>by
  unfold y6q at h
  split at h
  ·rename_i heq; cases heq
  ·rename_i s b heq
   cases heq
   split at h
   ·rename_i r' a
    cases h
    rw [y5a a]; rfl
   ·cases h
  ·cases h
theorem y9f (l:List Int):y6q (z2n l)=some l:=by
 induction l with
 |nil=>rfl
 |cons x l a=>simp only [z2n,eFs,y6q] at a⊢; rw [a]
theorem x1r (l:List Int):l.mergeSort (fun x y=>decide (x≤y))=D12.srt l:=by
 refine D12.srt_of (List.mergeSort_perm _ _) ?_
 have:=List.pairwise_mergeSort (le:=fun x y:Int=>decide (x≤y)) (fun a b c e d=>by simp only [decide_eq_true_eq] at*; exact Int.le_trans e d) (fun a b=>by simp only [eBh,decide_eq_true_eq]; exact Int.le_total a b) l
 exact this.imp fun h=>by simpa using h
theorem w01 (l:List Int):(D12.srt l).length=l.length:=(D12.srt_perm l).length_eq
theorem x3o {l:List Int} {i:Nat} {r:List D} (h:(z2n l)[i]?=some r):∃ n,l[i]?=some n∧r=[.int .i64 n]:=by
 unfold z2n at h
 rw [eAj] at h
 obtain ⟨x,a,rfl⟩:=eBy.1 h
 exact ⟨x,a,rfl⟩
theorem w02 {f:FuncId}
  (hS:∀ (N off cap:Nat) (zs:List Int) (w:World),Go.Sort.Holds (Value.int .i64) w N off zs.toArray→N<w.heap.size→zs.length<4611686018427387904→
   Calls P f #[.slice (some ⟨N,off,none⟩) zs.length cap] w fun e w'=>e= .returned (.tuple #[])∧∃ n os,w'=grow (putRow (Value.int .i64) (Sort.ahead w n) N off (zs.mergeSort fun x y=>decide (x≤y)).toArray) os)
  (hN:∀ (p:Option Addr) (cap:Nat) (w:World),Calls P f #[.slice p 0 cap] w fun e w'=>e= .returned (.tuple #[])∧w'=w)
  {zs:List Int} (b6:zs.length<4611686018427387904) (cap:Option Nat):
  z3s P f [.slice 0 1 0 zs.length cap] [.row (z2n zs)] (.tuple []) [.row (z2n (D12.srt zs))]:=⟨by
 intro ρ R w cs hr b0 c3
 obtain ⟨b5,a7⟩:=c3
 have b7:R.size=1:=b5
 have d:R=#[R.getD 0 undef]:=by
  apply Array.ext (by simpa using b7)
  intro i H X
  match i,H,X with
  |0,H,X=>simp [eAq,eBg H]
  |i+1,H,X=>simp at X
 by_cases h0:zs.length=0
 ·have I:zs=[]:=eBw.1 h0
  subst I
  obtain ⟨p,E,A⟩:∃ p E,R.getD 0 undef= .slice p 0 E:=by
   have u:=a7 0 _ rfl
   generalize T:R.getD 0 undef=q at u
   have key:∀ z,z=0→z0q ρ (z0f ρ [.row (z2n [])]) w (.slice 0 1 0 z cap) q→∃ p E,q= .slice p 0 E:=by
    intro z I u
    cases u with
    |slice _ _ _ _ _ L a c H X h3 h4 h5=>subst I; exact ⟨_,_,rfl⟩
    |nils _ _ _ _ a _=>exact ⟨_,_,rfl⟩
   exact key _ rfl u
  rw [A] at d
  rw [d]
  obtain ⟨e,w',fr,⟨rfl,rfl⟩,W,V,U⟩:=hN p E w cs
  exact ⟨ρ, .tuple #[],_,fr,W,V,U, .tuple [] #[] rfl (fun i x Y=>by simp at Y),hr,fun id hid=>b0 id hid,Ext.refl _ _ _ _⟩
 obtain ⟨L,E,hL,I,A⟩:∃ L E,ρ 0=some L∧L.esz=1∧R.getD 0 undef= .slice (some ⟨L.blk,L.base,none⟩) zs.length E:=by
  have u:=a7 0 _ rfl
  generalize T:R.getD 0 undef=q at u
  have key:∀ z,z=zs.length→z0q ρ (z0f ρ [.row (z2n zs)]) w (.slice 0 1 0 z cap) q→∃ L E,ρ 0=some L∧L.esz=1∧q= .slice (some ⟨L.blk,L.base,none⟩) zs.length E:=by
   intro z I u
   cases u with
   |slice _ _ _ _ _ L a c H X h3 h4 h5=>
    subst I
    refine ⟨L,c,H,X,?_⟩
    rw [h3 (by omega)]; simp
   |nils _ _ _ _ a _=>omega
  exact key _ rfl u
 rw [A] at d
 rw [d]
 have B:(z0e [AO.row (z2n zs)] 0).live=true:=rfl
 obtain ⟨J,ho⟩:=hr.obj 0 L hL
 obtain ⟨a2,c,t,K,a3,C⟩:=(show z1e P ρ _ w L (.row (z2n zs)) from ho)
 rw [I] at a3 C
 have m:∀ i,i<zs.length→c[L.base+i]?=some (.int .i64 zs[i]!):=by
  intro i O
  have b8:(z2n zs)[i]?=some [.int .i64 zs[i]!]:=by
   unfold z2n
   rw [eAj,eAd O,getElem!_pos zs i O]; rfl
  obtain ⟨v,u,_,a0⟩:=C i _ 0 (.int .i64 zs[i]!) b8 rfl
  rw [eDg,eBk] at u
  rw [u]
  cases a0; rfl
 have hH:Go.Sort.Holds (Value.int .i64) w L.blk L.base zs.toArray:=by
  intro q T
  have T:q<zs.length:=by simpa using T
  refine ⟨?_,?_⟩
  ·unfold eFc
   simp only [K]
   have:=m q T
   simpa [getElem!_pos,T] using this
  ·unfold World.frozen?
   simp only [K]
   simp
 obtain ⟨e,w',fr,⟨rfl,n,os,S⟩,W,V,U⟩:=hS L.blk L.base E zs w hH J b6 cs
 rw [x1r] at S
 generalize c2:D12.srt zs=o at S⊢
 have a4:o.length=zs.length:=by rw [←c2,w01]
 have a8:=hr.drawn (w.drawn+n) (trivial)
 have b4:Ext (fun id=>True) ρ [.row (z2n zs)] w ρ [.row (z2n zs)] { w with drawn:=w.drawn+n }:=Ext.drawn _ _ _ _ _ (trivial)
 let F:=putCells (Value.int .i64) L.base o.toArray c
 have a1:putRow (Value.int .i64) (Sort.ahead w n) L.blk L.base o.toArray=World.setObj { w with drawn:=w.drawn+n } L.blk (.cells F t (0,0)):=by
  unfold putRow mapBlock World.setObj Sort.ahead
  congr 1
  apply Array.ext_getElem?
  intro b
  simp only [eDt,eDu]
  by_cases s:L.blk=b
  ·subst s
   simp only [if_true,J,K,eBo,onCells]
   rfl
  ·simp [s]
 have a5:F.size=c.size:=by simp [F,putCells]
 have b1:∀ k,z1c { w with drawn:=w.drawn+n } L.blk=some k→z1c (World.setObj { w with drawn:=w.drawn+n } L.blk (.cells F t (0,0))) L.blk=some k:=by
  intro k hk
  rw [z0y (w:={ w with drawn:=w.drawn+n }) K] at hk; cases hk
  rw [z0y (z0u { w with drawn:=w.drawn+n } L.blk _ J)]
  rw [a5]
 have M:∀ i,i<zs.length→F[L.base+i]?=some (.int .i64 o[i]!):=by
  intro i O
  have H:=m i O
  have T:L.base+i<c.size:=(eAi.1 H).1
  simp only [F,putCells]
  rw [Array.getElem?_mapIdx,H]
  simp only [eBo,List.size_toArray,a4]
  rw [if_pos (by omega)]
  have e:L.base+i - L.base=i:=by omega
  rw [e]
  have c1:i<o.length:=by omega
  simp [getElem!_pos,c1]
 have g:=a8.set hL B (.row (z2n o)) rfl (.cells F t (0,0)) b1 (by
  refine ⟨a2,F,t,z0u _ _ _ J,fun i r O=>?_,fun i r j y O Z=>?_⟩
  ·rw [I]
   obtain ⟨x,_,rfl⟩:=x3o O
   rfl
  ·rw [I]
   obtain ⟨x,Y,rfl⟩:=x3o O
   have c0:=(eAe.1 Y).1
   have b2:o[i]! =x:=by rw [getElem!_pos o i c0]; exact (eAe.1 Y).2
   match j,Z with
   |0,Z=>
    cases Z
    refine ⟨.int .i64 x,?_,rfl, .int _ _⟩
    rw [eDg,eBk,M i (by omega),b2]
   |j+1,Z=>simp at Z)
 have Q:=Ext.set (fun _=>True) a8 hL B (.row (z2n o)) rfl (.cells F t (0,0)) b1
 have a6:w'=grow (World.setObj { w with drawn:=w.drawn+n } L.blk (.cells F t (0,0))) os:=by rw [S]; rw [a1]
 generalize c4:World.setObj { w with drawn:=w.drawn+n } L.blk (.cells F t (0,0))=G at g Q a6
 have l:∀ b,b<G.heap.size→(grow G os).heap[b]?=G.heap[b]?:=by
  intro b s
  show (G.heap++os)[b]?=_
  rw [Array.getElem?_append_left s]
 have a9:z5d (z0f ρ (z04 [.row (z2n zs)] 0 (.row (z2n o)))) (z0f ρ (z04 [.row (z2n zs)] 0 (.row (z2n o)))) G (grow G os):=
  ⟨by show _≤(G.heap++os).size; simp,fun b s _=>l b s,fun _ _ h=>h,fun b k s=>by
   have:=z7x s
   unfold z1c; rw [l b this]; exact s,z0v.refl _⟩
 have b9:z0b P ρ [.row (z2n o)] (grow G os):=g.of_keep a9 fun b s=>l b (z7p g s)
 have b3:Ext (fun _=>True) ρ (z04 [.row (z2n zs)] 0 (.row (z2n o))) G ρ [.row (z2n o)] (grow G os):=
  ⟨rfl,rfl,rfl,a9,fun _ _=>rfl,rfl,fun b s=>l b (g.fr b s)⟩
 subst a6
 exact ⟨ρ, .tuple #[],_,fr,W,V,U, .tuple [] #[] rfl (fun i x Y=>by simp at Y),b9,fun id hid=>b0 id hid,((b4.trans Q).trans b3).mono fun _ _=>trivial⟩⟩
end Go.Am
end
section
namespace Go.Proofs
def w1k:Go.Shelf.Ren:=⟨fun|40=>200|30=>179|32=>181|31=>180|34=>183|33=>182|35=>184|20=>160|19=>159|18=>158|17=>157|16=>156|15=>155|14=>154|13=>153|12=>152|11=>151|10=>150|7=>134|8=>135|5=>108|n=>n,fun|64=>221|63=>220|53=>199|57=>203|9=>9|5=>5|46=>100|44=>183|41=>135|35=>175|36=>176|4=>4|0=>0|22=>27|32=>162|3=>3|25=>2|23=>27|n=>n,fun|n=>n⟩
theorem w4u : Go.Proofs.SlLaysM.n5 Tryz.prog w1k :=
  { mixed := by kernel_rfl,
    f5 := ⟨Tryz.f108.name, by decide, Tryz.func108.trans (congrArg some (by kernel_rfl))⟩,
    f7 := ⟨Tryz.f134.name, by decide, Tryz.func134.trans (congrArg some (by kernel_rfl))⟩,
    f8 := Tryz.func135.trans (congrArg some (by kernel_rfl)),
    f10 := ⟨Tryz.f150.name, by decide, Tryz.func150.trans (congrArg some (by kernel_rfl))⟩,
    f11 := ⟨Tryz.f151.name, by decide, Tryz.func151.trans (congrArg some (by kernel_rfl))⟩,
    f12 := ⟨Tryz.f152.name, by decide, Tryz.func152.trans (congrArg some (by kernel_rfl))⟩,
    f13 := ⟨Tryz.f153.name, by decide, Tryz.func153.trans (congrArg some (by kernel_rfl))⟩,
    f14 := ⟨Tryz.f154.name, by decide, Tryz.func154.trans (congrArg some (by kernel_rfl))⟩,
    f15 := ⟨Tryz.f155.name, by decide, Tryz.func155.trans (congrArg some (by kernel_rfl))⟩,
    f16 := ⟨Tryz.f156.name, by decide, Tryz.func156.trans (congrArg some (by kernel_rfl))⟩,
    f17 := ⟨Tryz.f157.name, by decide, Tryz.func157.trans (congrArg some (by kernel_rfl))⟩,
    f18 := ⟨Tryz.f158.name, by decide, Tryz.func158.trans (congrArg some (by kernel_rfl))⟩,
    f19 := Tryz.func159.trans (congrArg some (by kernel_rfl)),
    f20 := Tryz.func160.trans (congrArg some (by kernel_rfl)),
    f30 := ⟨Tryz.f179.name, by decide, Tryz.func179.trans (congrArg some (by kernel_rfl))⟩,
    f31 := Tryz.func180.trans (congrArg some (by kernel_rfl)),
    f32 := Tryz.func181.trans (congrArg some (by kernel_rfl)),
    f33 := ⟨Tryz.f182.name, by decide, Tryz.func182.trans (congrArg some (by kernel_rfl))⟩,
    f34 := ⟨Tryz.f183.name, by decide, Tryz.func183.trans (congrArg some (by kernel_rfl))⟩,
    f35 := ⟨Tryz.f184.name, by decide, Tryz.func184.trans (congrArg some (by kernel_rfl))⟩,
    f40 := ⟨Tryz.f200.name, by decide, Tryz.func200.trans (congrArg some (by kernel_rfl))⟩,
    t0 := Tryz.underlying0,
    a0 := Tryz.isAgg0,
    z0 := Tryz.sizeOf0,
    v0 := Tryz.zeroValue0,
    t3 := Tryz.underlying3,
    a3 := Tryz.isAgg3,
    z3 := Tryz.sizeOf3,
    v3 := Tryz.zeroValue3,
    t4 := Tryz.underlying4,
    a4 := Tryz.isAgg4,
    z4 := Tryz.sizeOf4,
    v4 := Tryz.zeroValue4,
    t5 := Tryz.underlying5,
    a5 := Tryz.isAgg5,
    z5 := Tryz.sizeOf5,
    v5 := Tryz.zeroValue5,
    t9 := Tryz.underlying9,
    a9 := Tryz.isAgg9,
    z9 := Tryz.sizeOf9,
    v9 := Tryz.zeroValue9,
    t22 := Tryz.underlying27,
    a22 := Tryz.isAgg27,
    z22 := Tryz.sizeOf27,
    v22 := Tryz.zeroValue27,
    t23 := Tryz.underlying27,
    a23 := Tryz.isAgg27,
    z23 := Tryz.sizeOf27,
    v23 := Tryz.zeroValue27,
    t25 := Tryz.underlying2,
    a25 := Tryz.isAgg2,
    z25 := Tryz.sizeOf2,
    v25 := Tryz.zeroValue2,
    t32 := Tryz.underlying162,
    a32 := Tryz.isAgg162,
    z32 := Tryz.sizeOf162,
    v32 := Tryz.zeroValue162,
    t35 := Tryz.underlying175,
    a35 := Tryz.isAgg175,
    z35 := Tryz.sizeOf175,
    v35 := Tryz.zeroValue175,
    t36 := Tryz.underlying176,
    a36 := Tryz.isAgg176,
    z36 := Tryz.sizeOf176,
    v36 := Tryz.zeroValue176,
    t41 := Tryz.underlying135,
    a41 := Tryz.isAgg135,
    z41 := Tryz.sizeOf135,
    v41 := Tryz.zeroValue135,
    t44 := Tryz.underlying183,
    a44 := Tryz.isAgg183,
    z44 := Tryz.sizeOf183,
    v44 := Tryz.zeroValue183,
    t46 := Tryz.underlying100,
    a46 := Tryz.isAgg100,
    z46 := Tryz.sizeOf100,
    v46 := Tryz.zeroValue100,
    t53 := Tryz.underlying199,
    a53 := Tryz.isAgg199,
    z53 := Tryz.sizeOf199,
    v53 := Tryz.zeroValue199,
    t57 := Tryz.underlying203,
    a57 := Tryz.isAgg203,
    z57 := Tryz.sizeOf203,
    v57 := Tryz.zeroValue203,
    t63 := Tryz.underlying220,
    a63 := Tryz.isAgg220,
    z63 := Tryz.sizeOf220,
    v63 := Tryz.zeroValue220,
    t64 := Tryz.underlying221,
    a64 := Tryz.isAgg221,
    z64 := Tryz.sizeOf221,
    v64 := Tryz.zeroValue221 }
end Go.Proofs
namespace Go.Am
open Go Go.Proofs
noncomputable def y93:Ctr:=⟨108,[.full 0 1],[.row [(Go.Am.CK.int Go.IntKind.i64)]],[(.ret,⟨[(0, .tuple [])],[.row [(Go.Am.CK.int Go.IntKind.i64)]],1⟩)]⟩
noncomputable def v86 (_:Prim) (x:List (List D)×Unit):Option (List (List D)×Unit):=
 match y6q x.1 with
 |some l=>bif eAz l.length 1000000 then some (z2n (D12.srt l),()) else none
 |none=>none
noncomputable def u8i:Prim→Tup (y93).scs→Option (STup (scss (y93).outs)):=fun p x=>v86 p x
theorem v5u:CtrOk Tryz.prog y93 (u8i std):=by
 refine ⟨enters_of Tryz.func108 rfl rfl,fun x y a=>?_⟩
 obtain ⟨es,u⟩:=x
 change v86 std (es,u)=_ at a
 unfold v86 at a
 simp only at a
 split at a
 ·rename_i l d
  cases b:eAz l.length 1000000 with
  |false=>rw [b] at a; cases a
  |true=>
   rw [b] at a
   cases a
   have b:=eAl b
   have c:=y5a d
   subst c
   refine ⟨by show 1≤1; omega,?_⟩
   have:=w02 (P:=Tryz.prog) (f:=108) (AnyM.slices_Sort_int w4u) (AnyM.slices_Sort_int_none w4u) (zs:=l) (by omega) (some l.length)
   have e:(z2n l).length=l.length:=by simp [z2n]
   show z3s _ 108 [.slice 0 1 0 (z2n l).length (some (z2n l).length)] [.row (z2n l)] (.tuple []) [.row (z2n (D12.srt l))]
   rw [e]
   exact this
 ·cases a
end Go.Am
end
noncomputable section
namespace Go.Am
def w59:Ctr:=
 ⟨109,[.slc 0 1],[o18m],[(.ret,⟨[(0, .slc 0 1)],[o18m],1⟩)]⟩
def t0k:List LA:=
 [⟨109,[fU,tU,fU,tU,tU],1,⟨⟨[(0, .slc 0 1),(3, .int .i64)],[o18m],61⟩,[(AX.ret,⟨[(2, .slc 0 1)],[o18m],61⟩),((AX.exit 0),⟨[(0, .slc 0 1)],[o18m],61⟩)]⟩⟩,
 ⟨109,[fU,tU,fU,tU,fU,tU,fU,fU,tU,fU,fU,tU,fU,tU,tU],1,⟨⟨[(0, .slc 0 1),(3, .int .i64),(4, .slc 0 1),(5, .int .i64)],[o18m],61⟩,[((AX.exit 2),⟨[(0, .slc 0 1),(3, .int .i64)],[o18m],61⟩)]⟩⟩]
def t01:List JA:=
 [⟨109,[tU,fU,fU,tU,fU,fU,tU,fU,tU,fU,tU,fU,fU,tU,fU,fU,tU,fU,tU,tU],1,[(AX.normal,⟨[(0, .slc 0 1),(3, .int .i64),(4, .slc 0 1),(5, .int .i64)],[o18m],61⟩)]⟩]
def u1y:List CF:=
 []
def t4a:Anns:=
 ⟨u1y,t01,[]⟩
def x0g (p:Prim):V38v→Option (V38v⊕V66v):=
 fun a=>let A:=a.2.2.2.2.2.2.2.2.1;let F:=p.ofNat a.2.2.2.2.2.2.1;let B:=bif (p.cmp .geq A 0) then (p.cmp .lss A F) else false;let C:=p.add a.2.2.2.2.2.1 (p.nat A);let E:=p.ar .sub .i64 A 1;let G:=a.2.2.2.2.1;let H:=p.add a.2.2.2.2.2.1 (p.nat E);let I:=p.add a.2.1 (p.nat G); opt.run _ (
 aK (p.cmp .lss A F) (
 nD B<|
 nD (p.rowOk a.1 C [ci])<|
 nD (bif (p.cmp .geq E 0) then (p.cmp .lss E F) else false)<|
 nD (p.rowOk a.1 H [ci])<|
 opt.bnd (V38v) _ (
 opt.run (V38v) (
 aK (p.cmp .neq (p.rdI a.1 C 0) (p.rdI a.1 H 0)) (
 nD B<|
 nD (p.rowOk a.1 C [ci])<|
 nD (bif (p.cmp .geq G 0) then (p.cmp .lss G (p.ofNat a.2.2.1)) else false)<|
 nD (p.rowOk a.1 I [ci])<|
 rT ((p.set a.1 I [(D.int .i64 (p.rdI a.1 C 0))]),(a.2.1,(a.2.2.1,(a.2.2.2.1,((p.ar .add .i64 G 1),a.2.2.2.2.2)))))) (
 rT a))) fun b=>
 rT (eAs (b.1,(b.2.1,(b.2.2.1,(b.2.2.2.1,(b.2.2.2.2.1,(b.2.2.2.2.2.1,(b.2.2.2.2.2.2.1,(b.2.2.2.2.2.2.2.1,((p.ar .add .i64 b.2.2.2.2.2.2.2.2.1 1),()))))))))))) (
 rT (eAm (a.1,(a.2.1,(a.2.2.1,(a.2.2.2.1,(G,()))))))))
def x0h (p:Prim):V66v→Option (V66v⊕(V44v⊕V44v)):=
 fun a=>let A:=a.2.2.2.2.1;let B:=p.ofNat a.2.2.1;let C:=p.ar .sub .i64 A 1;let G:=(0:Int);let H:=p.add a.2.1 (p.nat A);let J:=a.2.2.2.1;let K:=p.add a.2.1 (p.nat C); opt.run _ (
 aK (p.cmp .lss A B) (
 nD (bif (p.cmp .geq A G) then (p.cmp .lss A B) else false)<|
 nD (p.rowOk a.1 H [ci])<|
 nD (bif (p.cmp .geq C G) then (p.cmp .lss C B) else false)<|
 nD (p.rowOk a.1 K [ci])<|
 aK (p.cmp .eql (p.rdI a.1 H 0) (p.rdI a.1 K 0)) (
 nD (p.and (p.cmp .geq A G) (p.and (p.cmp .leq A B) (p.cmp .leq B B)))<|
 opt.bnd (V66v) _ (
 z1a (x0g p) (a.1,(a.2.1,(a.2.2.1,(J,(A,(H,((p.sub (p.nat B) (p.nat A)),((p.sub J (p.nat A)),((1:Int),())))))))))) fun b=>let E:=p.ofNat b.2.2.1;let F:=b.2.2.2.2.1;let I:=p.nat F;
 nD (p.and (p.cmp .geq F G) (p.and (p.cmp .leq F E) (p.cmp .leq E E)))<|
 nD (p.leN (p.add (p.add b.2.1 I) (p.sub (p.nat E) I)) (p.len b.1))<|
 nD (p.and (p.cmp .geq G G) (p.and (p.cmp .leq G F) (p.cmp .leq F E)))<|
 rT (eAm (eAs ((p.splice b.1 (p.add b.2.1 I) (p.rep (p.sub (p.nat E) I) [(D.int .i64 G)])),((p.add b.2.1 (p.nat G)),((p.sub I (p.nat G)),((p.sub b.2.2.2.1 (p.nat G)),()))))))) (
 rT (eAs (a.1,(a.2.1,(a.2.2.1,(J,((p.ar .add .i64 A 1),())))))))) (
 rT (eAm (eAm (a.1,(a.2.1,(a.2.2.1,(J,()))))))))
def v2p:(p:Prim)→V44v→Option (V44v):=
 fun p x=>
 aK (p.cmp .lss (p.ofNat x.2.2.1) (2:Int)) (
 rT x) (
 opt.alt (V44v) (V44v) _ (
 z1a (x0h p) (x.1,(x.2.1,(x.2.2.1,(x.2.2.2.1,((1:Int),())))))) (fun a=>
 rT a) (fun b=>
 opt.bnd (V44v) _ (some b) fun c=>
 rT c))
theorem u0r:CtrOk PG w59 (v2p std):=okF vE (a:=t4a) (l:=t0k) (gN)
def u4g:Ctr:=
 ⟨57,[.list 1],[],[(.ret,⟨[(0, .list 1)],[],1⟩)]⟩
def la57:List LA:=
 []
def ja57:List JA:=
 []
def t2b:List CF:=
 [⟨w59,v2p⟩,⟨y93,u8i⟩]
def an57:Anns:=
 ⟨t2b,ja57,[]⟩
def G57:(p:Prim)→V10v→Option (V10v):=
 fun p x=>let A:=p.ofNat (p.len x.1);let C:=p.nat A;let B:=p.rep C [(D.int .i64 (0:Int))];let E:=p.eqN C (p.len (p.splice B 0 x.1));
 nD (p.and (p.cmp .geq A 0) (p.and (p.cmp .leq A A) (p.cmp .leq A 1000000)))<|
 nD (p.and true (p.and (p.leN (p.len x.1) C) (p.leN (p.add 0 C) (p.len B))))<|
 nD (p.eqN 0 0)<|
 nD E<|
 nD E<|
 opt.bnd (V10v) _ (v86 p ((p.splice B 0 x.1),())) fun a=>
 opt.bnd (V44v) _ (v2p p (a.1,(0,(C,(C,()))))) fun b=>
 nD (p.leN (p.add b.2.1 b.2.2.1) (p.len b.1))<|
 rT ((p.cut b.1 b.2.1 b.2.2.1),())
theorem u9j:CtrOk PG u4g (G57 std):=okF vE (a:=an57) (l:=la57) (gC u0r (gC v5u (gN)))
def v79:Ctr:=
 ⟨55,[.int .i64],[],[(.ret,⟨[(0, .agg [.str, .int .i64, .int .i64, .int .i64])],[],1⟩)]⟩
def la55:List LA:=
 []
def ja55:List JA:=
 [⟨55,[tU,tU,tU,tU,tU,tU,tU,tU,tU,fU,tU,fU,tU],0,[(AX.ret,⟨[(2, .bptr 0 0)],[o1m],23⟩),(AX.normal,⟨[(2, .bptr 0 0)],[o1m],23⟩)]⟩,
 ⟨55,[tU,tU,tU,tU,tU,fU,tU,fU,tU],0,[(AX.ret,⟨[(2, .bptr 0 0)],[o1m],23⟩),(AX.normal,⟨[(2, .bptr 0 0)],[o1m],23⟩)]⟩,
 ⟨55,[tU,tU,tU,tU,tU,tU,tU,fU,tU,fU,tU],0,[(AX.ret,⟨[(2, .bptr 0 0)],[o1m],23⟩),(AX.normal,⟨[(2, .bptr 0 0)],[o1m],23⟩)]⟩,
 ⟨55,[tU,fU,tU,fU,tU],0,[(AX.ret,⟨[(2, .bptr 0 0)],[o1m],23⟩),(AX.normal,⟨[(2, .bptr 0 0)],[o1m],23⟩)]⟩,
 ⟨55,[tU,tU,tU,fU,tU,fU,tU],0,[(AX.ret,⟨[(2, .bptr 0 0)],[o1m],23⟩),(AX.normal,⟨[(2, .bptr 0 0)],[o1m],23⟩)]⟩]
def t2d:List CF:=
 []
def an55:Anns:=
 ⟨t2d,ja55,[]⟩
def G55:(p:Prim)→V1v→Option (V8v):=
 fun p x=>let E:=(0:Int);let A:=(E,(E,()));let B:=(1:Int);let C:=((eCe #[]),(E,A));
 opt.alt (V8v) (V8v) _ (
 opt.run ((V8v⊕V8v)) (
 aK (p.cmp .eql x.1 B) (
 rT (eAs ((eCe #[101,110,116,101,114]),(B,(B,((1000000:Int),())))))) (
 opt.alt (V8v) (V8v) _ (
 opt.run ((V8v⊕V8v)) (
 aK (p.cmp .eql x.1 2) (
 rT (eAs ((eCe #[98,117,114,110]),(B,(B,((10000:Int),())))))) (
 opt.alt (V8v) (V8v) _ (
 opt.run ((V8v⊕V8v)) (
 aK (p.cmp .eql x.1 3) (
 rT (eAs ((eCe #[99,111,109,112,97,114,101]),((2:Int),(B,((100000:Int),())))))) (
 opt.alt (V8v) (V8v) _ (
 opt.run ((V8v⊕V8v)) (
 aK (p.cmp .eql x.1 4) (
 rT (eAs ((eCe #[114,101,112,108,97,99,101]),((2:Int),A)))) (
 opt.alt (V8v) (V8v) _ (
 opt.run ((V8v⊕V8v)) (
 aK (p.cmp .eql x.1 5) (
 rT (eAs ((eCe #[111,117,116]),(B,A)))) (
 aK (p.cmp .eql x.1 6) (
 rT (eAs ((eCe #[99,108,97,105,109]),((3:Int),(E,((1000000:Int),())))))) (
 rT (eAm C))))) (fun a=>
 rT (eAs a)) (fun b=>
 opt.bnd (V8v) _ (some b) fun c=>
 rT (eAm c))))) (fun d=>
 rT (eAs d)) (fun e=>
 opt.bnd (V8v) _ (some e) fun f=>
 rT (eAm f))))) (fun g=>
 rT (eAs g)) (fun h=>
 opt.bnd (V8v) _ (some h) fun i=>
 rT (eAm i))))) (fun j=>
 rT (eAs j)) (fun k=>
 opt.bnd (V8v) _ (some k) fun l=>
 rT (eAm l))))) (fun m=>
 rT m) (fun n=>
 opt.bnd (V8v) _ (some n) fun o=>
 rT C)
theorem t5g:CtrOk PG v79 (G55 std):=okF vE (a:=an55) (l:=la55) (gN)
def v3v:Ctr:=
 ⟨107,[.int .i64, .bptr 0 0, .bptr 1 0],o28m,[(.ret,⟨[(0, .bool)],o28m,1⟩)]⟩
def t0l:List LA:=
 []
def t02:List JA:=
 [⟨107,[fU,tU],2,[(AX.normal,⟨[(4, .bool)],o28m,13⟩)]⟩]
def u1z:List CF:=
 []
def t4b:Anns:=
 ⟨u1z,t02,[]⟩
def u7b:(p:Prim)→V49v→Option (V48v):=
 fun p x=>
 opt.bnd (V48v) _ (
 opt.run (V48v) (
 aK (p.cmp .lss x.2.2.1 x.1) (
 rT (x.1,(x.2.1,(true,())))) (
 rT (x.1,(x.2.1,((p.cmp .gtr x.2.2.1 x.2.1),())))))) fun a=>
 rT a
theorem u9t:CtrOk PG v3v (u7b std):=okF vE (a:=t4b) (l:=t0l) (gN)
def v3q:Ctr:=
 ⟨133,[.list 1, .clo 107 [] [.bptr 0 0, .bptr 1 0]],o28m,[(.ret,⟨[(0, .int .i64)],o28m,1⟩)]⟩
def t0e:List LA:=
 [⟨133,[fU,tU,fU,tU],2,⟨⟨[(0, .list 1),(1, .clo 107 [] [.bptr 0 0, .bptr 1 0]),(7, .int .i64),(8, .int .i64)],o28m,19⟩,[(AX.ret,⟨[(4, .int .i64)],o28m,19⟩),((AX.exit 0),⟨[],o28m,19⟩)]⟩⟩]
def t0v:List JA:=
 []
def u1s:List CF:=
 [⟨v3v,u7b⟩]
def t3y:Anns:=
 ⟨u1s,t0v,[]⟩
def x5i (p:Prim):V4v→Option (V4v⊕(V49v⊕V0v)):=
 fun a=>let A:=a.2.2.2.2.1; opt.run _ (
 aK (p.cmp .lss A a.2.2.2.1) (
 nD (p.rowOk a.2.2.1 (p.nat A) [ci])<|
 nD (p.cmp .geq A 0)<|
 opt.bnd (V48v) _ (u7b p (a.1,(a.2.1,((p.rdI a.2.2.1 (p.nat A) 0),())))) fun b=>
 aK b.2.2.1 (
 rT (eAm (eAs (b.1,(b.2.1,a.2.2.2.2))))) (
 rT (eAs (b.1,(b.2.1,(a.2.2.1,(a.2.2.2.1,((p.ar .add .i64 A 1),())))))))) (
 rT (eAm (eAm (a.1,(a.2.1,()))))))
def u8f:(p:Prim)→(Int×V65v)→Option (V49v):=
 fun p x=>
 opt.alt (V49v) (V0v) _ (
 z1a (x5i p) (x.1,(x.2.1,(x.2.2.1,((p.ofNat (p.len x.2.2.1)),((0:Int),())))))) (fun a=>
 rT a) (fun b=>
 opt.bnd (V0v) _ (some b) fun c=>
 rT (c.1,(c.2.1,((-1:Int),()))))
theorem u9l:CtrOk PG v3q (u8f std):=okF vE (a:=t3y) (l:=t0e) (gC u9t (gN))
def v3w:Ctr:=
 ⟨106,[.list 1, .clo 107 [] [.bptr 0 0, .bptr 1 0]],o28m,[(.ret,⟨[(0, .bool)],o28m,1⟩)]⟩
def t0m:List LA:=
 []
def t03:List JA:=
 []
def u2a:List CF:=
 [⟨v3q,u8f⟩]
def t4c:Anns:=
 ⟨u2a,t03,[]⟩
def u8h:(p:Prim)→(Int×V65v)→Option (V48v):=
 fun p x=>
 opt.bnd (V49v) _ (u8f p x) fun a=>
 rT (a.1,(a.2.1,((p.cmp .geq a.2.2.1 0),())))
theorem u9u:CtrOk PG v3w (u8h std):=okF vE (a:=t4c) (l:=t0m) (gC u9l (gN))
def u4h:Ctr:=
 ⟨56,[.int .i64, .int .i64, .list 1],[],[(.ret,⟨[(0, .bool)],[],1⟩)]⟩
def la56:List LA:=
 []
def ja56:List JA:=
 []
def t2c:List CF:=
 [⟨v3w,u8h⟩]
def an56:Anns:=
 ⟨t2c,ja56,[]⟩
def G56:(p:Prim)→(Int×V65v)→Option (V2v):=
 fun p x=>
 opt.bnd (V48v) _ (u8h p x) fun a=>
 rT ((bif a.2.2.1 then false else true),())
theorem ok56:CtrOk PG u4h (G56 std):=okF vE (a:=an56) (l:=la56) (gC u9u (gN))
def u4s:Ctr:=
 ⟨17,[.agg [.int .i64, .int .i64, .list 1, .int .i64]],[],[(.ret,⟨[(0, .int .i64)],[],1⟩)]⟩
def la17:List LA:=
 []
def ja17:List JA:=
 [⟨17,[fU,fU,fU,tU,tU],0,[(AX.normal,⟨[(1, .bptr 0 0),(3, .bptr 1 0),(7, .bool)],[o0m,o1m],48⟩)]⟩,
 ⟨17,[tU,tU,tU,fU,fU,tU,tU],0,[(AX.ret,⟨[(2, .int .i64)],[],48⟩),(AX.normal,⟨[],[],48⟩)]⟩,
 ⟨17,[tU,tU,tU,tU,tU,fU,fU,tU,tU],0,[(AX.ret,⟨[(2, .int .i64)],[],48⟩),(AX.normal,⟨[],[],48⟩)]⟩,
 ⟨17,[tU,tU,tU,tU,tU,tU,tU,fU,fU,tU,tU],0,[(AX.ret,⟨[(2, .int .i64)],[],48⟩),(AX.normal,⟨[],[],48⟩)]⟩,
 ⟨17,[tU,fU,fU,tU,tU],0,[(AX.ret,⟨[(2, .int .i64)],[],48⟩),(AX.normal,⟨[],[],48⟩)]⟩]
def t2q:List CF:=
 [⟨u4g,G57⟩,⟨u4h,G56⟩,⟨v79,G55⟩]
def an17:Anns:=
 ⟨t2q,ja17,[]⟩
def G17:(p:Prim)→V12v→Option (V1v):=
 fun p x=>let A:=(0:Int);
 opt.bnd (V8v) _ (G55 p (x.2.1,())) fun a=>
 opt.bnd (V62v) _ (
 opt.run (V62v) (
 opt.bnd (V2v) _ (G56 p ((1:Int),((1099511627776:Int),([[(D.int .i64 x.1)]],())))) fun b=>
 aK (bif b.1 then false else true) (
 rT (x.1,(x.2.1,(x.2.2.1,(x.2.2.2.1,(a.1,(a.2.1,(a.2.2.1,(a.2.2.2.1,(true,())))))))))) (
 rT (x.1,(x.2.1,(x.2.2.1,(x.2.2.2.1,(a.1,(a.2.1,(a.2.2.1,(a.2.2.2.1,((bif (p.strEq a.1 (eCe #[])) then (bif (p.cmp .eql a.2.1 A) then (bif (p.cmp .eql a.2.2.1 A) then (bif (p.cmp .eql a.2.2.2.1 A) then true else false) else false) else false) else false),())))))))))))) fun c=>
 opt.alt (V1v) (Unit) _ (
 opt.run ((V1v⊕Unit)) (
 aK c.2.2.2.2.2.2.2.2.1 (
 rT (eAs ((2:Int),()))) (
 opt.alt (V1v) (Unit) _ (
 opt.run ((V1v⊕Unit)) (
 aK (p.cmp .neq (p.ofNat (p.len c.2.2.1)) c.2.2.2.2.2.1) (
 rT (eAs ((6:Int),()))) (
 opt.bnd (V2v) _ (G56 p ((1:Int),((1099511627776:Int),(c.2.2.1,())))) fun d=>
 opt.alt (V1v) (Unit) _ (
 opt.run ((V1v⊕Unit)) (
 aK (bif d.1 then false else true) (
 rT (eAs ((3:Int),()))) (
 opt.bnd (V10v) _ (G57 p (c.2.2.1,())) fun e=>
 opt.alt (V1v) (Unit) _ (
 opt.run ((V1v⊕Unit)) (
 aK (p.cmp .neq (p.ofNat (p.len e.1)) c.2.2.2.2.2.1) (
 rT (eAs ((16:Int),()))) (
 opt.bnd (V2v) _ (G56 p (c.2.2.2.2.2.2.1,(c.2.2.2.2.2.2.2.1,([[(D.int .i64 c.2.2.2.1)]],())))) fun f=>
 aK (bif f.1 then false else true) (
 rT (eAs ((2:Int),()))) (
 rT (eAm ()))))) (fun g=>
 rT (eAs g)) (fun h=>
 opt.bnd (Unit) _ (some h) fun i=>
 rT (eAm ()))))) (fun j=>
 rT (eAs j)) (fun k=>
 opt.bnd (Unit) _ (some k) fun l=>
 rT (eAm ()))))) (fun m=>
 rT (eAs m)) (fun n=>
 opt.bnd (Unit) _ (some n) fun o=>
 rT (eAm ()))))) (fun q=>
 rT q) (fun r=>
 opt.bnd (Unit) _ (some r) fun t=>
 rT (A,()))
theorem ok17:CtrOk PG u4s (G17 std):=okF vE (a:=an17) (l:=la17) (gC u9j (gC ok56 (gC t5g (gN))))
def w57:Ctr:=
 ⟨57,[.vec 0 1],[o18m],[(.ret,⟨[(0, .list 1)],[o18m],1⟩)]⟩
def u1g:List LA:=
 []
def u1i:List JA:=
 []
def v7j:List CF:=
 [⟨w59,v2p⟩,⟨y93,u8i⟩]
def u5x:Anns:=
 ⟨v7j,u1i,[]⟩
def w7t:(p:Prim)→V10v→Option (V32v):=
 fun p x=>let E:=p.len x.1;let A:=p.ofNat E;let C:=p.nat A;let F:=p.rep C [(D.int .i64 (0:Int))];let B:=p.splice F 0 (p.cut x.1 0 E);
 nD (p.and (p.cmp .geq A 0) (p.and (p.cmp .leq A A) (p.cmp .leq A 1000000)))<|
 nD (p.and (p.leN (p.add 0 E) E) (p.and (p.leN E C) (p.leN (p.add 0 C) (p.len F))))<|
 nD (p.eqN 0 0)<|
 nD (p.eqN C (p.len B))<|
 nD (p.eqN C (p.len B))<|
 opt.bnd (V10v) _ (v86 p (B,())) fun a=>
 opt.bnd (V44v) _ (v2p p (a.1,(0,(C,(C,()))))) fun b=>
 nD (p.leN (p.add b.2.1 b.2.2.1) (p.len b.1))<|
 rT (x.1,((p.cut b.1 b.2.1 b.2.2.1),()))
theorem u0n:CtrOk PG w57 (w7t std):=okF vE (a:=u5x) (l:=u1g) (gC u0r (gC v5u (gN)))
def u4q:Ctr:=
 ⟨19,[.list 4],[],[(.ret,⟨[(0, .int .i64)],[],1⟩)]⟩
def la19:List LA:=
 [⟨19,[fU,tU,fU,tU,tU,tU],0,⟨⟨[(0, .list 4),(3, .vec 0 1),(10, .list 4),(11, .int .i64),(12, .int .i64)],[o18m],33⟩,[(AX.ret,⟨[(2, .int .i64)],[],33⟩),((AX.exit 0),⟨[(0, .list 4),(3, .vec 0 1)],[o18m],33⟩)]⟩⟩]
def ja19:List JA:=
 []
def t2o:List CF:=
 [⟨w57,w7t⟩,⟨u4s,G17⟩]
def an19:Anns:=
 ⟨t2o,ja19,[]⟩
def x7t (p:Prim):(LD×V52v)→Option ((LD×V52v)⊕(V1v⊕V32v)):=
 fun a=>let G:=a.2.2.2.2.1;let A:=p.nat G;let C:=p.len a.1;let E:=a.2.2.1;let F:=[[(D.int .i64 (p.rdI E A 0))]];let B:=p.app (p.cut a.1 0 C) (p.cut F 0 1); opt.run _ (
 aK (p.cmp .lss G a.2.2.2.1) (
 nD (p.rowOk E A [ci,ci,(CK.list 1),ci])<|
 nD (p.cmp .geq G 0)<|
 opt.bnd (V1v) _ (G17 p ((p.rdI E A 0),((p.rdI E A 1),((p.rdL E A 2),((p.rdI E A 3),()))))) fun b=>
 aK (p.cmp .neq b.1 0) (
 rT (eAm (eAs b))) (
 nD (p.and (p.leN (p.add 0 1) (p.len F)) (p.and (p.leN (p.add 0 C) C) (p.and (p.leN 1 1) (p.leN (p.add C 1) 1000000))))<|
 nD (p.eqN 0 0)<|
 nD (p.eqN (p.add C 1) (p.len B))<|
 rT (eAs (B,(a.2.1,(E,(a.2.2.2.1,((p.ar .add .i64 G 1),())))))))) (
 nD (p.eqN 0 0)<|
 nD (p.eqN C C)<|
 rT (eAm (eAm (a.1,(a.2.1,()))))))
def G19:(p:Prim)→V10v→Option (V1v):=
 fun p x=>
 aK (p.cmp .gtr (p.ofNat (p.len x.1)) (60:Int)) (
 rT ((6:Int),())) (
 opt.alt (V1v) (V32v) _ (
 z1a (x7t p) ([],(x.1,(x.1,((p.ofNat (p.len x.1)),((0:Int),())))))) (fun a=>
 rT a) (fun b=>
 opt.bnd (V32v) _ (some b) fun c=>
 nD (p.eqN 0 0)<|
 nD (p.eqN (p.len c.1) (p.len c.1))<|
 opt.bnd (V32v) _ (w7t p (c.1,())) fun d=>
 aK (p.cmp .neq (p.ofNat (p.len d.2.1)) (p.ofNat (p.len c.2.1))) (
 rT ((11:Int),())) (
 rT ((0:Int),()))))
theorem t5h:CtrOk PG u4q (G19 std):=okF vE (a:=an19) (l:=la19) (gC u0n (gC ok17 (gN)))
def u3w:Ctr:=
 ⟨78,[.list 4, .list 4],[],[(.ret,⟨[(0, .int .i64)],[],1⟩)]⟩
def la78:List LA:=
 []
def ja78:List JA:=
 []
def t1x:List CF:=
 [⟨u4q,G19⟩]
def an78:Anns:=
 ⟨t1x,ja78,[]⟩
def G78:(p:Prim)→V32v→Option (V1v):=
 fun p x=>
 opt.bnd (V1v) _ (G19 p (x.1,())) fun a=>
 aK (p.cmp .neq a.1 0) (
 rT a) (
 opt.bnd (V1v) _ (G19 p x.2) fun b=>
 rT b)
theorem ok78:CtrOk PG u3w (G78 std):=okF vE (a:=an78) (l:=la78) (gC t5h (gN))
def v3u:Ctr:=
 ⟨116,[.list 1, .int .i64],[],[(.ret,⟨[(0, .int .i64)],[],1⟩)]⟩
def t0j:List LA:=
 [⟨116,[fU,tU,fU,tU],0,⟨⟨[(0, .list 1),(1, .int .i64),(7, .int .i64),(8, .int .i64)],[],19⟩,[(AX.ret,⟨[(4, .int .i64)],[],19⟩),((AX.exit 0),⟨[],[],19⟩)]⟩⟩]
def t00:List JA:=
 []
def u1x:List CF:=
 []
def t39:Anns:=
 ⟨u1x,t00,[]⟩
def x0f (p:Prim):(LD×V49v)→Option ((LD×V49v)⊕(V1v⊕Unit)):=
 fun a=>let A:=a.2.2.2.1; opt.run _ (
 aK (p.cmp .lss A a.2.2.1) (
 nD (p.rowOk a.1 (p.nat A) [ci])<|
 nD (p.cmp .geq A 0)<|
 aK (p.cmp .eql a.2.1 (p.rdI a.1 (p.nat A) 0)) (
 rT (eAm (eAs a.2.2.2))) (
 rT (eAs (a.1,(a.2.1,(a.2.2.1,((p.ar .add .i64 A 1),()))))))) (
 rT (eAm (eAm ()))))
def u8g:(p:Prim)→V25v→Option (V1v):=
 fun p x=>
 opt.alt (V1v) (Unit) _ (
 z1a (x0f p) (x.1,(x.2.1,((p.ofNat (p.len x.1)),((0:Int),()))))) (fun a=>
 rT a) (fun b=>
 opt.bnd (Unit) _ (some b) fun c=>
 rT ((-1:Int),()))
theorem u9s:CtrOk PG v3u (u8g std):=okF vE (a:=t39) (l:=t0j) (gN)
def u3z:Ctr:=
 ⟨71,[.list 1, .int .i64],[],[(.ret,⟨[(0, .bool)],[],1⟩)]⟩
def la71:List LA:=
 []
def ja71:List JA:=
 []
def t13:List CF:=
 [⟨v3u,u8g⟩]
def an71:Anns:=
 ⟨t13,ja71,[]⟩
def G71:(p:Prim)→V25v→Option (V2v):=
 fun p x=>
 opt.bnd (V1v) _ (u8g p x) fun a=>
 rT ((p.cmp .geq a.1 0),())
theorem ok71:CtrOk PG u3z (G71 std):=okF vE (a:=an71) (l:=la71) (gC u9s (gN))
def v3r:Ctr:=
 ⟨130,[.int .i64, .bptr 0 0],[o0m],[(.ret,⟨[(0, .bool)],[o0m],1⟩)]⟩
def t0g:List LA:=
 []
def t0x:List JA:=
 []
def u1u:List CF:=
 [⟨u3z,G71⟩]
def t30:Anns:=
 ⟨u1u,t0x,[]⟩
def u6y:(p:Prim)→V4v→Option (V34v):=
 fun p x=>
 opt.bnd (V2v) _ (G71 p (x.2.2.1,x.2.2.2.2)) fun a=>
 rT (x.1,(x.2.1,(x.2.2.1,(x.2.2.2.1,a))))
theorem u9m:CtrOk PG v3r (u6y std):=okF vE (a:=t30) (l:=t0g) (gC ok71 (gN))
def x90:Ctr:=
 ⟨133,[.list 1, .clo 130 [] [.bptr 0 0]],[o0m],[(.ret,⟨[(0, .int .i64)],[o0m],1⟩)]⟩
def v6t:List LA:=
 [⟨133,[fU,tU,fU,tU],1,⟨⟨[(0, .list 1),(1, .clo 130 [] [.bptr 0 0]),(7, .int .i64),(8, .int .i64)],[o0m],19⟩,[(AX.ret,⟨[(4, .int .i64)],[o0m],19⟩),((AX.exit 0),⟨[],[o0m],19⟩)]⟩⟩]
def v61:List JA:=
 []
def w98:List CF:=
 [⟨v3r,u6y⟩]
def v8p:Anns:=
 ⟨w98,v61,[]⟩
def y09 (p:Prim):(Int×(Int×(LD×V55v)))→Option ((Int×(Int×(LD×V55v)))⊕(V4v⊕V12v)):=
 fun a=>let A:=a.2.2.2.2.2.2.1; opt.run _ (
 aK (p.cmp .lss A a.2.2.2.2.2.1) (
 nD (p.rowOk a.2.2.2.2.1 (p.nat A) [ci])<|
 nD (p.cmp .geq A 0)<|
 opt.bnd (V34v) _ (u6y p (a.1,(a.2.1,(a.2.2.1,(a.2.2.2.1,((p.rdI a.2.2.2.2.1 (p.nat A) 0),())))))) fun b=>
 aK b.2.2.2.2.1 (
 rT (eAm (eAs (b.1,(b.2.1,(b.2.2.1,(b.2.2.2.1,a.2.2.2.2.2.2))))))) (
 rT (eAs (b.1,(b.2.1,(b.2.2.1,(b.2.2.2.1,(a.2.2.2.2.1,(a.2.2.2.2.2.1,((p.ar .add .i64 A 1),())))))))))) (
 rT (eAm (eAm (a.1,(a.2.1,(a.2.2.1,(a.2.2.2.1,()))))))))
def w0n:(p:Prim)→(Int×(Int×(LD×V65v)))→Option (V4v):=
 fun p x=>
 opt.alt (V4v) (V12v) _ (
 z1a (y09 p) (x.1,(x.2.1,(x.2.2.1,(x.2.2.2.1,(x.2.2.2.2.1,((p.ofNat (p.len x.2.2.2.2.1)),((0:Int),())))))))) (fun a=>
 rT a) (fun b=>
 opt.bnd (V12v) _ (some b) fun c=>
 rT (c.1,(c.2.1,(c.2.2.1,(c.2.2.2.1,((-1:Int),()))))))
theorem v5t:CtrOk PG x90 (w0n std):=okF vE (a:=v8p) (l:=v6t) (gC u9m (gN))
def x94:Ctr:=
 ⟨106,[.list 1, .clo 130 [] [.bptr 0 0]],[o0m],[(.ret,⟨[(0, .bool)],[o0m],1⟩)]⟩
def v6u:List LA:=
 []
def v62:List JA:=
 []
def w99:List CF:=
 [⟨x90,w0n⟩]
def v8q:Anns:=
 ⟨w99,v62,[]⟩
def w0o:(p:Prim)→(Int×(Int×(LD×V65v)))→Option (V34v):=
 fun p x=>
 opt.bnd (V4v) _ (w0n p x) fun a=>
 rT (a.1,(a.2.1,(a.2.2.1,(a.2.2.2.1,((p.cmp .geq a.2.2.2.2.1 0),())))))
theorem v5v:CtrOk PG x94 (w0o std):=okF vE (a:=v8q) (l:=v6u) (gC v5t (gN))
def v74:Ctr:=
 ⟨92,[.agg [.int .i64, .int .i64, .list 1, .int .i64], .agg [.int .i64, .int .i64, .list 1, .int .i64]],[],[(.ret,⟨[(0, .bool)],[],1⟩)]⟩
def la92:List LA:=
 []
def ja92:List JA:=
 []
def t1q:List CF:=
 [⟨x94,w0o⟩]
def an92:Anns:=
 ⟨t1q,ja92,[]⟩
def G92:(p:Prim)→V51v→Option (V2v):=
 fun p x=>
 opt.bnd (V34v) _ (w0o p (x.2.2.2.2.1,(x.2.2.2.2.2.1,(x.2.2.2.2.2.2.1,(x.2.2.2.2.2.2.2.1,(x.2.2.1,())))))) fun a=>
 rT a.2.2.2.2
theorem t5d:CtrOk PG v74 (G92 std):=okF vE (a:=an92) (l:=la92) (gC v5v (gN))
def v3t:Ctr:=
 ⟨117,[.list 1],[],[(.ret,⟨[(0, .list 1)],[],1⟩)]⟩
def t0i:List LA:=
 []
def t0z:List JA:=
 []
def u1w:List CF:=
 []
def t38:Anns:=
 ⟨u1w,t0z,[]⟩
def u7a:(p:Prim)→V10v→Option (V10v):=
 fun p x=>let A:=p.add 0 (p.len x.1);let B:=p.leN (p.add 0 0) (p.len []);let C:=p.splice [] (p.add 0 0) x.1;let E:=p.app (p.cut [] 0 0) x.1;
 nD (p.leN 1 (p.len x.1))<|
 aK (p.leN A 0) (
 nD (p.and true (p.and B B))<|
 nD (p.leN (p.add 0 A) (p.len C))<|
 rT ((p.cut C 0 A),())) (
 nD (p.and true (p.and B (p.and (p.leN 1 (p.len x.1)) (p.leN A 1000000))))<|
 nD (p.leN (p.add 0 A) (p.len E))<|
 rT ((p.cut E 0 A),()))
theorem u9r:CtrOk PG v3t (u7a std):=okF vE (a:=t38) (l:=t0i) (gN)
def v05:Ctr:=
 ⟨72,[.agg [.int .u64, .int .u64], .int .i64],[],[(.ret,⟨[(0, .agg [.int .u64, .int .u64])],[],1⟩)]⟩
def la72:List LA:=
 []
def ja72:List JA:=
 []
def t12:List CF:=
 []
def an72:Anns:=
 ⟨t12,ja72,[]⟩
def G72:(p:Prim)→V49v→Option (V0v):=
 fun p x=>let G:=(1:Int);let E:=(0:Int);let A:=bif (p.cmp .geq G E) then (p.cmp .lss G (p.ofNat 2)) else false;let B:=bif (p.cmp .geq E E) then (p.cmp .lss E (p.ofNat 2)) else false;let F:=p.ar .rem .i64 x.2.2.1 64;let C:=p.ar .shl .u64 G F;let H:=p.cmp .neq (64:Int) E;let I:=p.ar .quo .i64 x.2.2.1 64;let J:=p.ar .or .u64 x.2.1 C;
 nD H<|
 aK (p.cmp .eql I E) (
 nD B<|
 nD H<|
 nD (p.cmp .geq F E)<|
 aK (p.cmp .eql E E) (
 nD B<|
 rT ((p.ar .or .u64 x.1 C),(x.2.1,()))) (
 nD (p.cmp .eql E G)<|
 nD A<|
 rT (x.1,((p.ar .or .u64 x.1 C),())))) (
 nD (p.cmp .eql I G)<|
 nD A<|
 nD H<|
 nD (p.cmp .geq F E)<|
 aK (p.cmp .eql G E) (
 nD B<|
 rT (J,(x.2.1,()))) (
 nD (p.cmp .eql G G)<|
 nD A<|
 rT (x.1,(J,()))))
theorem u9h:CtrOk PG v05 (G72 std):=okF vE (a:=an72) (l:=la72) (gN)
def u3y:Ctr:=
 ⟨73,[.agg [.int .u64, .int .u64], .agg [.int .u64, .int .u64]],[],[(.ret,⟨[(0, .agg [.int .u64, .int .u64])],[],1⟩)]⟩
def la73:List LA:=
 [⟨73,[fU,tU,fU,tU],0,⟨⟨[(2, .bptr 0 0),(3, .bptr 1 0),(4, .bptr 2 0),(6, .int .i64)],o26m,19⟩,[((AX.exit 0),⟨[(2, .bptr 0 0),(4, .bptr 1 0)],[o11m,o11m],19⟩)]⟩⟩]
def ja73:List JA:=
 [⟨73,[fU,tU,tU,fU,fU,tU,fU,tU],0,[(AX.normal,⟨[(2, .bptr 0 0),(3, .bptr 1 0),(4, .bptr 2 0),(6, .int .i64)],o26m,19⟩)]⟩]
def t11:List CF:=
 []
def an73:Anns:=
 ⟨t11,ja73,[]⟩
def v1t (p:Prim):V23v→Option (V23v⊕V14v):=
 fun a=>let E:=(1:Int);let C:=(0:Int);let A:=bif (p.cmp .geq E C) then (p.cmp .lss E (p.ofNat 2)) else false;let B:=bif (p.cmp .geq C C) then (p.cmp .lss C (p.ofNat 2)) else false;let F:=a.2.2.2.2.2.2.1;let G:=p.ar .or .u64 a.2.1 a.2.2.2.1;let H:=p.cmp .eql F E;let I:=p.cmp .eql F C;let J:=p.ar .or .u64 a.2.1 a.2.2.1;let K:=p.ar .or .u64 a.1 a.2.2.2.1;let L:=p.ar .or .u64 a.1 a.2.2.1; opt.run _ (
 aK (p.cmp .lss F 2) (
 opt.bnd (V23v) _ (
 opt.run (V23v) (
 aK I (
 nD B<|
 aK I (
 nD B<|
 aK (p.cmp .eql C C) (
 nD B<|
 rT (L,a.2)) (
 nD (p.cmp .eql C E)<|
 nD A<|
 rT (a.1,(L,a.2.2)))) (
 nD H<|
 nD A<|
 aK (p.cmp .eql C C) (
 nD B<|
 rT (K,a.2)) (
 nD (p.cmp .eql C E)<|
 nD A<|
 rT (a.1,(K,a.2.2))))) (
 nD H<|
 nD A<|
 aK I (
 nD B<|
 aK (p.cmp .eql E C) (
 nD B<|
 rT (J,a.2)) (
 nD (p.cmp .eql E E)<|
 nD A<|
 rT (a.1,(J,a.2.2)))) (
 nD H<|
 nD A<|
 aK (p.cmp .eql E C) (
 nD B<|
 rT (G,a.2)) (
 nD (p.cmp .eql E E)<|
 nD A<|
 rT (a.1,(G,a.2.2))))))) fun b=>
 rT (eAs (b.1,(b.2.1,(b.2.2.1,(b.2.2.2.1,(b.2.2.2.2.1,(b.2.2.2.2.2.1,((p.ar .add .i64 b.2.2.2.2.2.2.1 E),()))))))))) (
 rT (eAm (a.1,(a.2.1,(a.2.2.2.2.1,(a.2.2.2.2.2.1,())))))))
def G73:(p:Prim)→V14v→Option (V0v):=
 fun p x=>
 opt.bnd (V14v) _ (
 z1a (v1t p) (x.1,(x.2.1,(x.2.2.1,(x.2.2.2.1,((0:Int),((0:Int),((0:Int),())))))))) fun a=>
 rT (a.1,(a.2.1,()))
theorem ok73:CtrOk PG u3y (G73 std):=okF vE (a:=an73) (l:=la73) (gN)
def x7h:Ctr:=
 ⟨74,[.agg [.int .u64, .int .u64], .int .i64],[],[(.ret,⟨[(0, .bool)],[],1⟩)]⟩
def la74:List LA:=
 []
def ja74:List JA:=
 [⟨74,[fU,tU],0,[(AX.normal,⟨[(4, .bool)],[],14⟩)]⟩]
def t10:List CF:=
 []
def an74:Anns:=
 ⟨t10,ja74,[]⟩
def G74:(p:Prim)→V49v→Option (V2v):=
 fun p x=>let A:=p.ar .rem .i64 x.2.2.1 64;let B:=(0:Int);let C:=p.cmp .neq (64:Int) B;let E:=(1:Int);let F:=p.ar .quo .i64 x.2.2.1 64;
 opt.bnd (V2v) _ (
 opt.run (V2v) (
 nD C<|
 aK (p.cmp .eql F B) (
 nD (bif (p.cmp .geq B B) then (p.cmp .lss B (p.ofNat 2)) else false)<|
 nD C<|
 nD (p.cmp .geq A B)<|
 rT ((p.cmp .eql (p.ar .and .u64 (p.ar .shr .u64 x.1 A) E) E),())) (
 nD (p.cmp .eql F E)<|
 nD (bif (p.cmp .geq E B) then (p.cmp .lss E (p.ofNat 2)) else false)<|
 nD C<|
 nD (p.cmp .geq A B)<|
 rT ((p.cmp .eql (p.ar .and .u64 (p.ar .shr .u64 x.2.1 A) E) E),())))) fun a=>
 rT a
theorem v9d:CtrOk PG x7h (G74 std):=okF vE (a:=an74) (l:=la74) (gN)
def w58:Ctr:=
 ⟨132,[.agg [.int .u64, .int .u64], .agg [.int .u64, .int .u64]],[],[(.ret,⟨[(0, .agg [.int .u64, .int .u64])],[],1⟩)]⟩
def t0f:List LA:=
 [⟨132,[fU,tU,fU,tU],0,⟨⟨[(2, .bptr 0 0),(3, .bptr 1 0),(4, .bptr 2 0),(6, .int .i64)],o26m,19⟩,[((AX.exit 0),⟨[(2, .bptr 0 0),(4, .bptr 1 0)],[o11m,o11m],19⟩)]⟩⟩]
def t0w:List JA:=
 [⟨132,[fU,tU,tU,fU,fU,tU,fU,tU],0,[(AX.normal,⟨[(2, .bptr 0 0),(3, .bptr 1 0),(4, .bptr 2 0),(6, .int .i64)],o26m,19⟩)]⟩]
def u1t:List CF:=
 []
def t3z:Anns:=
 ⟨u1t,t0w,[]⟩
def w0d (p:Prim):V23v→Option (V23v⊕V14v):=
 fun a=>let E:=(1:Int);let C:=(0:Int);let A:=bif (p.cmp .geq E C) then (p.cmp .lss E (p.ofNat 2)) else false;let B:=bif (p.cmp .geq C C) then (p.cmp .lss C (p.ofNat 2)) else false;let F:=a.2.2.2.2.2.2.1;let G:=p.ar .and .u64 a.2.1 a.2.2.2.1;let H:=p.cmp .eql F E;let I:=p.cmp .eql F C;let J:=p.ar .and .u64 a.2.1 a.2.2.1;let K:=p.ar .and .u64 a.1 a.2.2.2.1;let L:=p.ar .and .u64 a.1 a.2.2.1; opt.run _ (
 aK (p.cmp .lss F 2) (
 opt.bnd (V23v) _ (
 opt.run (V23v) (
 aK I (
 nD B<|
 aK I (
 nD B<|
 aK (p.cmp .eql C C) (
 nD B<|
 rT (L,a.2)) (
 nD (p.cmp .eql C E)<|
 nD A<|
 rT (a.1,(L,a.2.2)))) (
 nD H<|
 nD A<|
 aK (p.cmp .eql C C) (
 nD B<|
 rT (K,a.2)) (
 nD (p.cmp .eql C E)<|
 nD A<|
 rT (a.1,(K,a.2.2))))) (
 nD H<|
 nD A<|
 aK I (
 nD B<|
 aK (p.cmp .eql E C) (
 nD B<|
 rT (J,a.2)) (
 nD (p.cmp .eql E E)<|
 nD A<|
 rT (a.1,(J,a.2.2)))) (
 nD H<|
 nD A<|
 aK (p.cmp .eql E C) (
 nD B<|
 rT (G,a.2)) (
 nD (p.cmp .eql E E)<|
 nD A<|
 rT (a.1,(G,a.2.2))))))) fun b=>
 rT (eAs (b.1,(b.2.1,(b.2.2.1,(b.2.2.2.1,(b.2.2.2.2.1,(b.2.2.2.2.2.1,((p.ar .add .i64 b.2.2.2.2.2.2.1 E),()))))))))) (
 rT (eAm (a.1,(a.2.1,(a.2.2.2.2.1,(a.2.2.2.2.2.1,())))))))
def v8y:(p:Prim)→V14v→Option (V0v):=
 fun p x=>
 opt.bnd (V14v) _ (
 z1a (w0d p) (x.1,(x.2.1,(x.2.2.1,(x.2.2.2.1,((0:Int),((0:Int),((0:Int),())))))))) fun a=>
 rT (a.1,(a.2.1,()))
theorem u0o:CtrOk PG w58 (v8y std):=okF vE (a:=t3z) (l:=t0f) (gN)
def u3x:Ctr:=
 ⟨75,[.agg [.int .i64, .int .i64, .list 1, .int .i64]],[],[(.ret,⟨[(0, .agg [.int .i64, .int .i64, .list 1, .int .i64])],[],1⟩)]⟩
def la75:List LA:=
 []
def ja75:List JA:=
 []
def t1z:List CF:=
 [⟨v3t,u7a⟩]
def an75:Anns:=
 ⟨t1z,ja75,[]⟩
def G75:(p:Prim)→V12v→Option (V12v):=
 fun p x=>
 opt.bnd (V10v) _ (u7a p (x.2.2.1,())) fun a=>
 rT (x.1,(x.2.1,(a.1,x.2.2.2)))
theorem ok75:CtrOk PG u3x (G75 std):=okF vE (a:=an75) (l:=la75) (gC u9r (gN))
def v78:Ctr:=
 ⟨66,[.list 1],[],[(.ret,⟨[(0, .bptr 0 0)],o25m,1⟩)]⟩
def la66:List LA:=
 [⟨66,[fU,tU,fU,tU,tU],0,⟨⟨[(0, .list 1),(3, .bptr 0 0),(23, .list 1),(24, .int .i64),(25, .int .i64)],[.box [.sl 2 4, .map 1, .nils], .map,o9m],146⟩,[((AX.exit 0),⟨[(0, .list 1),(3, .bptr 0 0)],o27m,146⟩)]⟩⟩,
 ⟨66,[fU,tU,tU,fU,fU,tU,tU,fU,fU,tU,fU,tU,tU],0,⟨⟨[(0, .list 1),(3, .bptr 0 0),(23, .list 1),(24, .int .i64),(25, .int .i64),(29, .list 4),(30, .int .i64),(31, .int .i64)],o27m,146⟩,[((AX.exit 2),⟨[(0, .list 1),(3, .bptr 0 0),(23, .list 1),(24, .int .i64),(25, .int .i64)],o27m,146⟩)]⟩⟩,
 ⟨66,[fU,tU,fU,tU,tU,tU,tU],0,⟨⟨[(3, .bptr 0 0),(90, .list 1),(91, .int .i64),(92, .int .i64)],o25m,146⟩,[((AX.exit 4),⟨[(3, .bptr 0 0)],o25m,146⟩)]⟩⟩,
 ⟨66,[fU,tU,tU,tU,fU,fU,tU,tU,fU,fU,tU,fU,tU,tU,tU,tU],0,⟨⟨[(3, .bptr 0 0),(12, .map 1),(90, .list 1),(91, .int .i64),(92, .int .i64),(97, .list 4),(98, .int .i64),(99, .int .i64)],o24m,146⟩,[((AX.exit 6),⟨[(3, .bptr 0 0),(90, .list 1),(91, .int .i64),(92, .int .i64)],o25m,146⟩)]⟩⟩,
 ⟨66,[fU,tU,tU,tU,fU,fU,tU,tU,fU,fU,tU,tU,tU,fU,fU,tU,tU,fU,fU,tU,fU,tU,tU,tU,tU],0,⟨⟨[(3, .bptr 0 0),(12, .map 1),(15, .int .i64),(90, .list 1),(91, .int .i64),(92, .int .i64),(97, .list 4),(98, .int .i64),(99, .int .i64),(111, .list 1),(112, .int .i64),(113, .int .i64)],o24m,146⟩,[((AX.exit 8),⟨[(3, .bptr 0 0),(12, .map 1),(90, .list 1),(91, .int .i64),(92, .int .i64),(97, .list 4),(98, .int .i64),(99, .int .i64)],o24m,146⟩)]⟩⟩]
def ja66:List JA:=
 [⟨66,[fU,tU,tU,fU,fU,tU,tU,tU,fU,fU,tU,tU,fU,fU,tU,fU,tU,tU,tU,tU],0,[(AX.normal,⟨[(3, .bptr 0 0),(12, .map 1),(90, .list 1),(91, .int .i64),(92, .int .i64),(97, .list 4),(98, .int .i64),(99, .int .i64)],o24m,146⟩)]⟩,
 ⟨66,[fU,tU,tU,fU,fU,tU,tU,tU,fU,fU,tU,tU,fU,fU,tU,tU,tU,fU,fU,tU,tU,fU,fU,tU,fU,tU,tU,tU,tU],0,[(AX.normal,⟨[(3, .bptr 0 0),(12, .map 1),(15, .int .i64),(90, .list 1),(91, .int .i64),(92, .int .i64),(97, .list 4),(98, .int .i64),(99, .int .i64),(111, .list 1),(112, .int .i64),(113, .int .i64)],o24m,146⟩)]⟩,
 ⟨66,[fU,tU,tU,fU,fU,tU,tU,fU,fU,tU,tU,fU,fU,tU,fU,tU,tU],0,[(AX.normal,⟨[(0, .list 1),(3, .bptr 0 0),(23, .list 1),(24, .int .i64),(25, .int .i64),(29, .list 4),(30, .int .i64),(31, .int .i64)],o27m,146⟩)]⟩,
 ⟨66,[tU,tU,tU,fU,fU,tU,tU,fU,fU,tU,tU,fU,fU,tU,tU,fU,fU,tU,fU,tU,tU],0,[(AX.normal,⟨[(0, .list 1),(3, .bptr 0 0),(23, .list 1),(24, .int .i64),(25, .int .i64),(29, .list 4),(30, .int .i64),(31, .int .i64)],o27m,146⟩)]⟩]
def t17:List CF:=
 [⟨v05,G72⟩]
def an66:Anns:=
 ⟨t17,ja66,[]⟩
def t3v (p:Prim):V6v→Option (V6v⊕V9v):=
 fun a=>let S:=a.2.2.2.2.2.2.2.2.2.2.2.2.2.1;let F:=a.2.2.2.2.2.2.2.2.2.2.2.2.2.2.2.1;let A:=D.int .i64 (p.rdI S (p.nat F) 0);let Q:=a.2.2.2.1;let E:=a.2.2.2.2.2.2.1;let M:=p.add 0 (p.nat E);let C:=p.len Q;let G:=p.mOk a.1 [SK.i] false A false [ci];let H:=p.mset a.1 (p.nat (p.ofNat (p.mpos a.1 [SK.i] false A))) A (D.int .i64 E);let I:=bif (p.cmp .geq E 0) then (p.cmp .lss E (p.ofNat C)) else false;let J:=p.rowOk Q M [(CK.int .u64),(CK.int .u64)];let K:=p.mhas a.1 [SK.i] false A;let O:=p.eqN C C;let P:=p.eqN 0 0;let T:=p.madd a.1 A (D.int .i64 E); opt.run _ (
 aK (p.cmp .lss F a.2.2.2.2.2.2.2.2.2.2.2.2.2.2.1) (
 opt.bnd (V6v) _ (
 opt.run (V6v) (
 nD (p.rowOk S (p.nat F) [ci])<|
 nD (p.cmp .geq F 0)<|
 nD G<|
 aK K (
 nD I<|
 nD J<|
 opt.bnd (V0v) _ (G72 p ((p.rdI Q M 0),((p.rdI Q M 1),((p.mI a.1 [SK.i] false A 0),())))) fun b=>let B:=p.set Q M [(D.int .u64 b.1),(D.int .u64 b.2.1)];let L:=p.eqN C (p.len B);let R:=(a.2.1,(a.2.2.1,(B,a.2.2.2.2)));
 nD I<|
 nD J<|
 nD G<|
 aK K (
 nD P<|
 nD L<|
 nD L<|
 rT (H,R)) (
 nD P<|
 nD L<|
 nD L<|
 rT (T,R))) (
 nD G<|
 aK K (
 nD P<|
 nD O<|
 nD O<|
 rT (H,a.2)) (
 nD P<|
 nD O<|
 nD O<|
 rT (T,a.2))))) fun c=>let N:=p.len c.2.2.2.1;
 nD P<|
 nD (p.eqN N N)<|
 nD (p.eqN N N)<|
 rT (eAs (c.1,(c.2.1,(c.2.2.1,(c.2.2.2.1,(c.2.2.2.2.1,(c.2.2.2.2.2.1,(c.2.2.2.2.2.2.1,(c.2.2.2.2.2.2.2.1,(c.2.2.2.2.2.2.2.2.1,(c.2.2.2.2.2.2.2.2.2.1,(c.2.2.2.2.2.2.2.2.2.2.1,(c.2.2.2.2.2.2.2.2.2.2.2.1,(c.2.2.2.2.2.2.2.2.2.2.2.2.1,(c.2.2.2.2.2.2.2.2.2.2.2.2.2.1,(c.2.2.2.2.2.2.2.2.2.2.2.2.2.2.1,((p.ar .add .i64 c.2.2.2.2.2.2.2.2.2.2.2.2.2.2.2.1 1),())))))))))))))))))) (
 nD P<|
 nD O<|
 nD O<|
 rT (eAm (a.1,(a.2.1,(a.2.2.1,(Q,(a.2.2.2.2.1,(a.2.2.2.2.2.1,(a.2.2.2.2.2.2.2.1,(a.2.2.2.2.2.2.2.2.1,(a.2.2.2.2.2.2.2.2.2.1,(a.2.2.2.2.2.2.2.2.2.2.1,(a.2.2.2.2.2.2.2.2.2.2.2.1,(a.2.2.2.2.2.2.2.2.2.2.2.2.1,())))))))))))))))
def w2f (p:Prim):V6v→Option (V6v⊕V9v):=
 fun a=>let S:=a.2.2.2.2.2.2.2.2.2.2.2.2.2.1;let F:=a.2.2.2.2.2.2.2.2.2.2.2.2.2.2.2.1;let A:=D.int .i64 (p.rdI S (p.nat F) 0);let Q:=a.2.2.2.1;let E:=a.2.2.2.2.2.2.1;let M:=p.add 0 (p.nat E);let C:=p.len Q;let G:=p.mOk a.1 [SK.i] false A false [ci];let H:=p.mset a.1 (p.nat (p.ofNat (p.mpos a.1 [SK.i] false A))) A (D.int .i64 E);let I:=bif (p.cmp .geq E 0) then (p.cmp .lss E (p.ofNat C)) else false;let J:=p.rowOk Q M [(CK.int .u64),(CK.int .u64)];let K:=p.mhas a.1 [SK.i] false A;let O:=p.eqN C C;let P:=p.eqN 0 0;let T:=p.madd a.1 A (D.int .i64 E); opt.run _ (
 aK (p.cmp .lss F a.2.2.2.2.2.2.2.2.2.2.2.2.2.2.1) (
 opt.bnd (V6v) _ (
 opt.run (V6v) (
 nD (p.rowOk S (p.nat F) [ci])<|
 nD (p.cmp .geq F 0)<|
 nD G<|
 aK K (
 nD I<|
 nD J<|
 opt.bnd (V0v) _ (G72 p ((p.rdI Q M 0),((p.rdI Q M 1),((p.mI a.1 [SK.i] false A 0),())))) fun b=>let B:=p.set Q M [(D.int .u64 b.1),(D.int .u64 b.2.1)];let L:=p.eqN C (p.len B);let R:=(a.2.1,(a.2.2.1,(B,a.2.2.2.2)));
 nD I<|
 nD J<|
 nD G<|
 aK K (
 nD P<|
 nD L<|
 nD L<|
 rT (H,R)) (
 nD P<|
 nD L<|
 nD L<|
 rT (T,R))) (
 nD G<|
 aK K (
 nD P<|
 nD O<|
 nD O<|
 rT (H,a.2)) (
 nD P<|
 nD O<|
 nD O<|
 rT (T,a.2))))) fun c=>let N:=p.len c.2.2.2.1;
 nD P<|
 nD (p.eqN N N)<|
 nD (p.eqN N N)<|
 rT (eAs (c.1,(c.2.1,(c.2.2.1,(c.2.2.2.1,(c.2.2.2.2.1,(c.2.2.2.2.2.1,(c.2.2.2.2.2.2.1,(c.2.2.2.2.2.2.2.1,(c.2.2.2.2.2.2.2.2.1,(c.2.2.2.2.2.2.2.2.2.1,(c.2.2.2.2.2.2.2.2.2.2.1,(c.2.2.2.2.2.2.2.2.2.2.2.1,(c.2.2.2.2.2.2.2.2.2.2.2.2.1,(c.2.2.2.2.2.2.2.2.2.2.2.2.2.1,(c.2.2.2.2.2.2.2.2.2.2.2.2.2.2.1,((p.ar .add .i64 c.2.2.2.2.2.2.2.2.2.2.2.2.2.2.2.1 1),())))))))))))))))))) (
 nD P<|
 nD O<|
 nD O<|
 rT (eAm (a.1,(a.2.1,(a.2.2.1,(Q,(a.2.2.2.2.1,(a.2.2.2.2.2.1,(a.2.2.2.2.2.2.2.1,(a.2.2.2.2.2.2.2.2.1,(a.2.2.2.2.2.2.2.2.2.1,(a.2.2.2.2.2.2.2.2.2.2.1,(a.2.2.2.2.2.2.2.2.2.2.2.1,(a.2.2.2.2.2.2.2.2.2.2.2.2.1,())))))))))))))))
def w6x (p:Prim):V9v→Option (V9v⊕V39v):=
 fun a=>let E:=a.2.2.2.2.2.2.2.2.2.1;let N:=a.2.2.2.2.2.2.2.2.2.2.1;let C:=a.2.2.2.2.2.2.2.2.2.2.2.1;let O:=p.nat C;let A:=(a.2.2.2.2.2.2.1,(a.2.2.2.2.2.2.2.1,(a.2.2.2.2.2.2.2.2.1,(E,(N,(C,((p.rdL E O 2),((p.ofNat (p.len (p.rdL E O 2))),((0:Int),())))))))));let K:=a.2.2.2.1;let B:=p.eqN (p.len K) (p.len K);let F:=D.int .i64 (p.rdI E O 0);let J:=p.eqN 0 0;let L:=a.2.2.1;let M:=a.2.2.2.2.2.1; opt.run _ (
 aK (p.cmp .lss C N) (
 opt.bnd (V9v) _ (
 opt.run (V9v) (
 nD (p.rowOk E O [ci,ci,(CK.list 1),ci])<|
 nD (p.cmp .geq C 0)<|
 nD (p.mOk L [SK.i] false F false [ci])<|
 aK (p.mhas L [SK.i] false F) (
 nD J<|
 nD B<|
 nD B<|
 opt.bnd (V9v) _ (
 z1a (w2f p) (a.1,(a.2.1,(L,(K,(a.2.2.2.2.1,(M,((p.mI L [SK.i] false F 0),A)))))))) fun b=>let I:=p.len b.2.2.2.1;
 nD J<|
 nD (p.eqN I I)<|
 nD (p.eqN I I)<|
 rT b) (
 nD J<|
 nD B<|
 nD B<|
 opt.bnd (V9v) _ (
 z1a (t3v p) (a.1,(a.2.1,(L,(K,(a.2.2.2.2.1,(M,((0:Int),A)))))))) fun c=>let H:=p.len c.2.2.2.1;
 nD J<|
 nD (p.eqN H H)<|
 nD (p.eqN H H)<|
 rT c))) fun d=>let G:=p.len d.2.2.2.1;
 nD J<|
 nD (p.eqN G G)<|
 nD (p.eqN G G)<|
 rT (eAs (d.1,(d.2.1,(d.2.2.1,(d.2.2.2.1,(d.2.2.2.2.1,(d.2.2.2.2.2.1,(d.2.2.2.2.2.2.1,(d.2.2.2.2.2.2.2.1,(d.2.2.2.2.2.2.2.2.1,(d.2.2.2.2.2.2.2.2.2.1,(d.2.2.2.2.2.2.2.2.2.2.1,((p.ar .add .i64 d.2.2.2.2.2.2.2.2.2.2.2.1 1),())))))))))))))) (
 nD J<|
 nD B<|
 nD B<|
 rT (eAm (a.2.1,(L,(K,(a.2.2.2.2.1,(M,(a.2.2.2.2.2.2.1,(a.2.2.2.2.2.2.2.1,(a.2.2.2.2.2.2.2.2.1,())))))))))))
def w6y (p:Prim):V39v→Option (V39v⊕V5v):=
 fun a=>let A:=p.eqN (p.len a.2.2.1) (p.len a.2.2.1);let B:=a.2.2.2.2.2.2.2.1;let E:=a.2.2.2.2.2.1; opt.run _ (
 aK (p.cmp .lss B a.2.2.2.2.2.2.1) (
 nD (p.rowOk E (p.nat B) [(CK.list 4)])<|
 nD (p.cmp .geq B 0)<|
 nD (p.eqN 0 0)<|
 nD A<|
 nD A<|
 opt.bnd (V39v) _ (
 z1a (w6x p) ([],(a.1,(a.2.1,(a.2.2.1,(a.2.2.2.1,(a.2.2.2.2.1,(E,(a.2.2.2.2.2.2.1,(B,((p.rdL E (p.nat B) 0),((p.ofNat (p.len (p.rdL E (p.nat B) 0))),((0:Int),()))))))))))))) fun b=>let C:=p.len b.2.2.1;
 nD (p.eqN 0 0)<|
 nD (p.eqN C C)<|
 nD (p.eqN C C)<|
 rT (eAs (b.1,(b.2.1,(b.2.2.1,(b.2.2.2.1,(b.2.2.2.2.1,(b.2.2.2.2.2.1,(b.2.2.2.2.2.2.1,((p.ar .add .i64 b.2.2.2.2.2.2.2.1 1),())))))))))) (
 nD (p.eqN 0 0)<|
 nD A<|
 nD A<|
 rT (eAm (a.1,(a.2.1,(a.2.2.1,(a.2.2.2.1,(a.2.2.2.2.1,()))))))))
def w2g (p:Prim):V15v→Option (V15v⊕(LD×(List (V26v)×V64v))):=
 fun a=>let L:=a.2.2.2.2.2.2.2.2.1;let G:=a.2.2.2.2.2.2.2.2.2.2.1;let Q:=p.nat G;let C:=D.int .i64 (p.rdI L Q 0);let A:=[[C,(D.int .i64 (p.rdI L Q 1)),(D.list (p.rdF L Q 2 1) 1 (p.rdL L Q 2)),(D.int .i64 (p.rdI L Q 3))]];let F:=p.ofNat a.2.2.2.1;let S:=(0:Int);let B:=p.sub (p.nat F) (p.nat S);let E:=p.add a.2.2.1 (p.nat S);let H:=p.leN (p.add E B) (p.len a.1);let I:=p.splice a.1 (p.add E B) (p.cut A 0 1);let J:=p.and (p.cmp .geq S S) (p.and (p.cmp .leq S F) (p.and (p.cmp .leq F F) (p.cmp .leq F F)));let X:=p.leN (p.add 0 1) (p.len A);let Y:=p.add B 1;let K:=p.and X (p.and H (p.and (p.leN 1 1) (p.leN Y 1000000)));let M:=p.mset a.2.1 (p.nat (p.ofNat (p.mpos a.2.1 [SK.i] false C))) C (D.int .i64 F);let N:=p.and X (p.and H (p.and (p.leN 1 1) H));let O:=(Y,a.2.2.2.2);let P:=p.mOk a.2.1 [SK.i] false C false [ci];let R:=p.app (p.cut a.1 E B) (p.cut A 0 1);let T:=p.mhas a.2.1 [SK.i] false C;let U:=p.madd a.2.1 C (D.int .i64 F);let V:=p.leN (p.add E B) (p.len I); opt.run _ (
 aK (p.cmp .lss G a.2.2.2.2.2.2.2.2.2.1) (
 opt.bnd (V15v) _ (
 opt.run (V15v) (
 nD (p.rowOk L Q [ci,ci,(CK.list 1),ci])<|
 nD (p.cmp .geq G S)<|
 nD P<|
 aK T (
 opt.bnd (V15v) _ (
 opt.run (V15v) (
 rT a)) fun b=>
 rT b) (
 opt.bnd (V15v) _ (
 opt.run (V15v) (
 nD P<|
 aK T (
 nD J<|
 aK (p.leN Y B) (
 nD N<|
 nD V<|
 rT (I,(M,(E,O)))) (
 nD K<|
 rT (R,(M,(0,O))))) (
 nD J<|
 aK (p.leN Y B) (
 nD N<|
 nD V<|
 rT (I,(U,(E,O)))) (
 nD K<|
 rT (R,(U,(0,O))))))) fun c=>
 rT c))) fun d=>
 rT (eAs (d.1,(d.2.1,(d.2.2.1,(d.2.2.2.1,(d.2.2.2.2.1,(d.2.2.2.2.2.1,(d.2.2.2.2.2.2.1,(d.2.2.2.2.2.2.2.1,(d.2.2.2.2.2.2.2.2.1,(d.2.2.2.2.2.2.2.2.2.1,((p.ar .add .i64 d.2.2.2.2.2.2.2.2.2.2.1 1),()))))))))))))) (
 rT (eAm (a.1,(a.2.1,(a.2.2.1,(a.2.2.2.1,(a.2.2.2.2.1,(a.2.2.2.2.2.1,(a.2.2.2.2.2.2.1,(a.2.2.2.2.2.2.2.1,())))))))))))
def w6z (p:Prim):(List (V26v)×(LD×V64v))→Option ((List (V26v)×(LD×V64v))⊕(LD×(List (V26v)×(Nat×(Nat×V10v))))):=
 fun a=>let A:=a.2.2.2.2.2.2.2.1;let B:=a.2.2.2.2.2.1; opt.run _ (
 aK (p.cmp .lss A a.2.2.2.2.2.2.1) (
 nD (p.rowOk B (p.nat A) [(CK.list 4)])<|
 nD (p.cmp .geq A 0)<|
 opt.bnd ((LD×(List (V26v)×V64v))) _ (
 z1a (w2g p) (a.2.1,(a.1,(a.2.2.1,(a.2.2.2.1,(a.2.2.2.2.1,(B,(a.2.2.2.2.2.2.1,(A,((p.rdL B (p.nat A) 0),((p.ofNat (p.len (p.rdL B (p.nat A) 0))),((0:Int),())))))))))))) fun b=>
 rT (eAs (b.2.1,(b.1,(b.2.2.1,(b.2.2.2.1,(b.2.2.2.2.1,(b.2.2.2.2.2.1,(b.2.2.2.2.2.2.1,((p.ar .add .i64 b.2.2.2.2.2.2.2.1 1),())))))))))) (
 rT (eAm (a.2.1,(a.1,(a.2.2.1,(a.2.2.2.1,(a.2.2.2.2.1,()))))))))
def G66:(p:Prim)→V10v→Option (V5v):=
 fun p x=>let E:=(0:Int);
 opt.bnd ((LD×(List (V26v)×(Nat×(Nat×V10v))))) _ (
 z1a (w6z p) ([],([],(0,(0,(x.1,(x.1,((p.ofNat (p.len x.1)),(E,()))))))))) fun a=>let B:=p.ofNat a.2.2.2.1;let A:=p.rep (p.nat B) [(D.int .u64 E),(D.int .u64 E)];let F:=p.eqN (p.nat B) (p.len A);
 nD (p.and (p.cmp .geq B E) (p.and (p.cmp .leq B B) (p.cmp .leq B 1000000)))<|
 nD (p.eqN 0 0)<|
 nD F<|
 nD F<|
 opt.bnd (V5v) _ (
 z1a (w6y p) (a.1,(a.2.1,(A,(a.2.2.1,(a.2.2.2.1,(a.2.2.2.2.1,((p.ofNat (p.len a.2.2.2.2.1)),(E,()))))))))) fun b=>let C:=p.len b.2.2.1;
 nD (p.eqN 0 0)<|
 nD (p.eqN C C)<|
 nD (p.eqN C C)<|
 rT b
theorem t5f:CtrOk PG v78 (G66 std):=okF vE (a:=an66) (l:=la66) (gC u9h (gN))
def u4a:Ctr:=
 ⟨70,[.bptr 0 0],o25m,[(.ret,⟨[(0, .tuple [])],o25m,1⟩)]⟩
def la70:List LA:=
 [⟨70,[fU,tU],4,⟨⟨[(0, .bptr 0 0),(8, .int .i64),(9, .int .i64)],o25m,52⟩,[((AX.exit 0),⟨[],o25m,52⟩)]⟩⟩,
 ⟨70,[fU,tU,tU,fU,fU,tU,tU,fU,fU,tU],4,⟨⟨[(0, .bptr 0 0),(2, .int .i64),(8, .int .i64),(9, .int .i64),(16, .int .i64),(17, .int .i64)],o25m,52⟩,[((AX.exit 2),⟨[(0, .bptr 0 0),(8, .int .i64),(9, .int .i64)],o25m,52⟩)]⟩⟩]
def ja70:List JA:=
 [⟨70,[tU,tU,fU,fU,tU,tU,fU,fU,tU,tU,fU,fU,tU,tU,fU,fU,tU],4,[(AX.normal,⟨[(0, .bptr 0 0),(2, .int .i64),(8, .int .i64),(9, .int .i64),(16, .int .i64),(17, .int .i64)],o25m,52⟩)]⟩]
def t14:List CF:=
 [⟨u3y,G73⟩,⟨x7h,G74⟩]
def an70:Anns:=
 ⟨t14,ja70,[]⟩
def w2e (p:Prim):V33v→Option (V33v⊕V22v):=
 fun a=>let H:=a.2.2.2.2.2.2.2.2.2.1;let A:=p.add 0 (p.nat H);let I:=a.2.2.1;let C:=p.len I;let B:=bif (p.cmp .geq H 0) then (p.cmp .lss H (p.ofNat C)) else false;let L:=CK.int .u64;let F:=p.rowOk I A [L,L];let K:=a.2.2.2.2.2.1;let G:=p.add 0 (p.nat K);let M:=p.eqN C C;let N:=p.eqN 0 0; opt.run _ (
 aK (p.cmp .lss H a.2.2.2.2.2.2.2.2.1) (
 nD B<|
 nD F<|
 opt.bnd (V2v) _ (G74 p ((p.rdI I A 0),((p.rdI I A 1),(K,())))) fun b=>
 opt.bnd (V33v) _ (
 opt.run (V33v) (
 aK b.1 (
 nD B<|
 nD F<|
 nD (bif (p.cmp .geq K 0) then (p.cmp .lss K (p.ofNat C)) else false)<|
 nD (p.rowOk I G [L,L])<|
 opt.bnd (V0v) _ (G73 p ((p.rdI I A 0),((p.rdI I A 1),((p.rdI I G 0),((p.rdI I G 1),()))))) fun c=>let E:=p.set I A [(D.int .u64 c.1),(D.int .u64 c.2.1)];
 nD B<|
 nD F<|
 nD N<|
 nD (p.eqN C (p.len E))<|
 nD (p.eqN C (p.len E))<|
 rT (a.1,(a.2.1,(E,a.2.2.2)))) (
 nD N<|
 nD M<|
 nD M<|
 rT a))) fun d=>let J:=p.len d.2.2.1;
 nD N<|
 nD (p.eqN J J)<|
 nD (p.eqN J J)<|
 rT (eAs (d.1,(d.2.1,(d.2.2.1,(d.2.2.2.1,(d.2.2.2.2.1,(d.2.2.2.2.2.1,(d.2.2.2.2.2.2.1,(d.2.2.2.2.2.2.2.1,(d.2.2.2.2.2.2.2.2.1,((p.ar .add .i64 d.2.2.2.2.2.2.2.2.2.1 1),())))))))))))) (
 nD N<|
 nD M<|
 nD M<|
 rT (eAm (a.1,(a.2.1,(I,(a.2.2.2.1,(a.2.2.2.2.1,(a.2.2.2.2.2.2.1,(a.2.2.2.2.2.2.2.1,()))))))))))
def w6u (p:Prim):V22v→Option (V22v⊕V5v):=
 fun a=>let A:=p.eqN (p.len a.2.2.1) (p.len a.2.2.1);let C:=a.2.2.2.2.2.2.1; opt.run _ (
 aK (p.cmp .lss C a.2.2.2.2.2.1) (
 nD (p.eqN 0 0)<|
 nD A<|
 nD A<|
 opt.bnd (V22v) _ (
 z1a (w2e p) (a.1,(a.2.1,(a.2.2.1,(a.2.2.2.1,(a.2.2.2.2.1,(C,(a.2.2.2.2.2.1,(C,((p.ofNat a.2.2.2.2.1),((0:Int),()))))))))))) fun b=>let B:=p.len b.2.2.1;
 nD (p.eqN 0 0)<|
 nD (p.eqN B B)<|
 nD (p.eqN B B)<|
 rT (eAs (b.1,(b.2.1,(b.2.2.1,(b.2.2.2.1,(b.2.2.2.2.1,(b.2.2.2.2.2.1,((p.ar .add .i64 b.2.2.2.2.2.2.1 1),()))))))))) (
 nD (p.eqN 0 0)<|
 nD A<|
 nD A<|
 rT (eAm (a.1,(a.2.1,(a.2.2.1,(a.2.2.2.1,(a.2.2.2.2.1,()))))))))
def G70:(p:Prim)→V5v→Option (V5v):=
 fun p x=>let A:=p.len x.2.2.1;
 nD (p.eqN 0 0)<|
 nD (p.eqN A A)<|
 nD (p.eqN A A)<|
 opt.bnd (V5v) _ (
 z1a (w6u p) (x.1,(x.2.1,(x.2.2.1,(x.2.2.2.1,(x.2.2.2.2.1,((p.ofNat x.2.2.2.2.1),((0:Int),())))))))) fun a=>let B:=p.len a.2.2.1;
 nD (p.eqN 0 0)<|
 nD (p.eqN B B)<|
 nD (p.eqN B B)<|
 rT a
theorem ok70:CtrOk PG u4a (G70 std):=okF vE (a:=an70) (l:=la70) (gC ok73 (gC v9d (gN)))
def u3s:Ctr:=
 ⟨91,[.bptr 0 0],o25m,[(.ret,⟨[(0, .bool)],o25m,1⟩)]⟩
def la91:List LA:=
 [⟨91,[fU,tU,fU,tU],4,⟨⟨[(8, .full 3 2),(9, .int .i64),(10, .int .i64)],o25m,19⟩,[(AX.ret,⟨[(2, .bool)],o25m,19⟩),((AX.exit 0),⟨[],o25m,19⟩)]⟩⟩]
def ja91:List JA:=
 []
def t1r:List CF:=
 [⟨x7h,G74⟩]
def an91:Anns:=
 ⟨t1r,ja91,[]⟩
def w2d (p:Prim):V22v→Option (V22v⊕(V43v⊕V5v)):=
 fun a=>let C:=a.2.2.1;let A:=p.eqN (p.len C) (p.len C);let B:=a.2.2.2.2.2.2.1;let E:=p.add 0 (p.nat B);let F:=p.eqN 0 0; opt.run _ (
 aK (p.cmp .lss B a.2.2.2.2.2.1) (
 nD (bif (p.cmp .geq B 0) then (p.cmp .lss B (p.ofNat (p.len C))) else false)<|
 nD (p.rowOk C E [(CK.int .u64),(CK.int .u64)])<|
 opt.bnd (V2v) _ (G74 p ((p.rdI C E 0),((p.rdI C E 1),a.2.2.2.2.2.2))) fun b=>
 aK b.1 (
 nD F<|
 nD A<|
 nD A<|
 rT (eAm (eAs (a.1,(a.2.1,(C,(a.2.2.2.1,(a.2.2.2.2.1,(true,()))))))))) (
 nD F<|
 nD A<|
 nD A<|
 nD F<|
 nD A<|
 nD A<|
 rT (eAs (a.1,(a.2.1,(C,(a.2.2.2.1,(a.2.2.2.2.1,(a.2.2.2.2.2.1,((p.ar .add .i64 B 1),())))))))))) (
 nD F<|
 nD A<|
 nD A<|
 rT (eAm (eAm (a.1,(a.2.1,(C,(a.2.2.2.1,(a.2.2.2.2.1,())))))))))
def G91:(p:Prim)→V5v→Option (V43v):=
 fun p x=>let F:=p.len x.2.2.1;let A:=p.eqN F F;let E:=p.eqN 0 0;
 nD E<|
 nD A<|
 nD A<|
 nD E<|
 nD A<|
 nD A<|
 opt.alt (V43v) (V5v) _ (
 z1a (w2d p) (x.1,(x.2.1,(x.2.2.1,(x.2.2.2.1,(x.2.2.2.2.1,((p.ofNat F),((0:Int),())))))))) (fun a=>let C:=p.len a.2.2.1;
 nD E<|
 nD (p.eqN C C)<|
 nD (p.eqN C C)<|
 rT a) (fun b=>
 opt.bnd (V5v) _ (some b) fun c=>let B:=p.len c.2.2.1;
 nD E<|
 nD (p.eqN B B)<|
 nD (p.eqN B B)<|
 rT (c.1,(c.2.1,(c.2.2.1,(c.2.2.2.1,(c.2.2.2.2.1,(false,())))))))
theorem ok91:CtrOk PG u3s (G91 std):=okF vE (a:=an91) (l:=la91) (gC v9d (gN))
def u4c:Ctr:=
 ⟨67,[.bptr 0 0],o25m,[(.ret,⟨[(0, .vec 4 4)],[o3m,o9m, .map,o2m,o9m],1⟩)]⟩
def la67:List LA:=
 [⟨67,[fU,tU,fU,tU,tU,tU],4,⟨⟨[(1, .bptr 4 0),(3, .bptr 5 0),(4, .vec 6 4),(11, .int .i64),(12, .int .i64)],[o3m,o9m, .map,o2m,o13m,o11m,o9m],56⟩,[((AX.exit 0),⟨[(4, .vec 4 4)],[o3m,o9m, .map,o2m,o9m],56⟩)]⟩⟩,
 ⟨131,[fU,tU],11,⟨⟨[(0, .yld 10),(2, .bptr 9 0),(9, .full 3 2),(10, .int .i64),(11, .int .i64)],[o3m,o9m, .map,o2m,o13m,o11m,o9m,o12m,o13m,o11m, .loop Go.LoopState.ready Option.none 67 [false,true,false,true,false,false,true,true,false,false,true,false,true,true,true] 56 [(16, .clo 131 [] [.bptr 8 0, .bptr 9 0]),(5, .bptr 7 0),(1, .bptr 4 0),(11, .int .i64),(12, .int .i64),(4, .vec 6 4),(3, .bptr 5 0)]],34⟩,[((AX.exit 0),⟨[],[o3m,o9m, .map,o2m,o13m,o11m,o9m,o12m,o13m,o11m, .loop Go.LoopState.ready Option.none 67 [false,true,false,true,false,false,true,true,false,false,true,false,true,true,true] 56 [(16, .clo 131 [] [.bptr 8 0, .bptr 9 0]),(5, .bptr 7 0),(1, .bptr 4 0),(11, .int .i64),(12, .int .i64),(4, .vec 6 4),(3, .bptr 5 0)]],34⟩)]⟩⟩]
def ja67:List JA:=
 [⟨67,[tU,fU,tU,fU,tU,fU,tU,fU,fU,tU,tU,fU,fU,tU,fU,tU,tU,tU],12,[(AX.normal,⟨[(1, .bptr 4 0),(3, .bptr 5 0),(4, .vec 6 4),(5, .bptr 7 0),(11, .int .i64),(12, .int .i64)],[o3m,o9m, .map,o2m,o13m,o11m,o9m,o12m,o13m,o11m, .dead,o11m],56⟩)]⟩,
 ⟨131,[fU,tU,tU,fU,fU,tU],11,[(AX.normal,⟨[(0, .yld 10),(2, .bptr 9 0),(9, .full 3 2),(10, .int .i64),(11, .int .i64)],[o3m,o9m, .map,o2m,o13m,o11m,o9m,o12m,o13m,o11m, .loop Go.LoopState.ready Option.none 67 [false,true,false,true,false,false,true,true,false,false,true,false,true,true,true] 56 [(16, .clo 131 [] [.bptr 8 0, .bptr 9 0]),(5, .bptr 7 0),(1, .bptr 4 0),(11, .int .i64),(12, .int .i64),(4, .vec 6 4),(3, .bptr 5 0)]],34⟩)]⟩,
 ⟨67,[tU,fU,tU,fU,tU,fU,fU,tU,tU,fU,fU,tU,fU,tU,tU,tU],12,[(AX.normal,⟨[(1, .bptr 4 0),(3, .bptr 5 0),(4, .vec 6 4),(5, .bptr 7 0),(11, .int .i64),(12, .int .i64)],[o3m,o9m, .map,o2m,o13m,o11m,o9m,o12m,o13m,o11m, .dead,o11m],56⟩)]⟩]
def t16:List CF:=
 [⟨u3x,G75⟩,⟨v05,G72⟩,⟨w58,v8y⟩,⟨x7h,G74⟩]
def an67:Anns:=
 ⟨t16,ja67,[]⟩
def y8n (p:Prim):V3v→Option (V3v⊕V59v):=
 fun a=>let K:=a.2.2.1;let V:=p.len K;let A:=p.eqN V V;let B:=a.2.2.2.2.2.2.2.2.2.2.2.2.2.2.1;let O:=a.2.2.2.2.2.2.2.2.2.1;let M:=a.2.2.2.2.2.2.2.2.2.2.1;let J:=p.add 0 (p.nat B);let A1:=p.rdI K J 0;let Z:=p.rdI K J 1;let N:=(a.2.2.2.2.2.2.2.2.2.2.2.1,(a.2.2.2.2.2.2.2.2.2.2.2.2.1,()));let C:=(O,(M,(A1,(Z,N))));let E:=p.eqN 0 0;let T:=a.2.2.2.1;let F:=p.eqN (p.len T) (p.len T);let P:=a.2.2.2.2.1;let Q:=a.2.2.2.2.2.1;let X:=a.2.2.2.2.2.2.1;let U:=a.2.2.2.2.2.2.2.1;let G:=(a.1,(a.2.1,(K,(T,(P,(Q,(X,(U,(B,C)))))))));let I:=a.2.2.2.2.2.2.2.2.1;let Y:=[ci,ci,(CK.list 1),ci];let A2:=p.cmp .geq B 0; opt.run _ (
 aK (p.cmp .lss B a.2.2.2.2.2.2.2.2.2.2.2.2.2.1) (
 opt.bnd (V3v) _ (
 opt.run (V3v) (
 nD (bif A2 then (p.cmp .lss B (p.ofNat V)) else false)<|
 nD (p.rowOk K J [(CK.int .u64),(CK.int .u64)])<|
 opt.bnd (V2v) _ (G74 p (O,(M,a.2.2.2.2.2.2.2.2.2.2.2.2.2.2))) fun b=>
 aK (bif b.1 then false else true) (
 opt.bnd (V0v) _ (v8y p (A1,(Z,(O,(M,()))))) fun c=>
 aK (bif (p.cmp .eql c.1 A1) then (bif (p.cmp .eql c.2.1 Z) then true else false) else false) (
 opt.bnd (V3v) _ (
 opt.run (V3v) (
 aK (p.cmp .lss I 0) (
 opt.bnd (V3v) _ (
 opt.run (V3v) (
 nD E<|
 nD A<|
 nD A<|
 nD E<|
 nD F<|
 rT G)) fun d=>let S:=p.len d.2.2.1;
 nD E<|
 nD (p.eqN S S)<|
 nD (p.eqN S S)<|
 nD E<|
 nD (p.eqN (p.len d.2.2.2.1) (p.len d.2.2.2.1))<|
 rT d) (
 nD (bif A2 then (p.cmp .lss B (p.ofNat Q)) else false)<|
 nD (p.rowOk a.1 (p.add P (p.nat B)) Y)<|
 nD (bif (p.cmp .geq I 0) then (p.cmp .lss I (p.ofNat Q)) else false)<|
 nD (p.rowOk a.1 (p.add P (p.nat I)) Y)<|
 opt.bnd (V3v) _ (
 opt.run (V3v) (
 aK (p.cmp .lss (p.rdI a.1 (p.add P (p.nat B)) 0) (p.rdI a.1 (p.add P (p.nat I)) 0)) (
 nD E<|
 nD A<|
 nD A<|
 nD E<|
 nD F<|
 rT G) (
 nD E<|
 nD A<|
 nD A<|
 nD E<|
 nD F<|
 rT (a.1,(a.2.1,(K,(T,(P,(Q,(X,(U,(I,C)))))))))))) fun e=>let R:=p.len e.2.2.1;
 nD E<|
 nD (p.eqN R R)<|
 nD (p.eqN R R)<|
 nD E<|
 nD (p.eqN (p.len e.2.2.2.1) (p.len e.2.2.2.1))<|
 rT e))) fun f=>let L:=p.len f.2.2.1;
 nD E<|
 nD (p.eqN L L)<|
 nD (p.eqN L L)<|
 nD E<|
 nD (p.eqN (p.len T) (p.len f.2.2.2.1))<|
 nD E<|
 nD (p.eqN V L)<|
 nD (p.eqN V L)<|
 rT (f.1,(f.2.1,(f.2.2.1,(f.2.2.2.1,(f.2.2.2.2.1,(f.2.2.2.2.2.1,(f.2.2.2.2.2.2.1,(f.2.2.2.2.2.2.2.1,(f.2.2.2.2.2.2.2.2.1,(f.2.2.2.2.2.2.2.2.2.1,(f.2.2.2.2.2.2.2.2.2.2.1,a.2.2.2.2.2.2.2.2.2.2.2)))))))))))) (
 nD E<|
 nD A<|
 nD A<|
 nD E<|
 nD F<|
 nD E<|
 nD A<|
 nD A<|
 rT a)) (
 nD E<|
 nD A<|
 nD A<|
 nD E<|
 nD F<|
 nD E<|
 nD A<|
 nD A<|
 rT a))) fun g=>let H:=p.eqN (p.len g.2.2.1) (p.len g.2.2.1);
 nD E<|
 nD H<|
 nD H<|
 nD E<|
 nD (p.eqN (p.len g.2.2.2.1) (p.len g.2.2.2.1))<|
 nD E<|
 nD H<|
 nD H<|
 rT (eAs (g.1,(g.2.1,(g.2.2.1,(g.2.2.2.1,(g.2.2.2.2.1,(g.2.2.2.2.2.1,(g.2.2.2.2.2.2.1,(g.2.2.2.2.2.2.2.1,(g.2.2.2.2.2.2.2.2.1,(g.2.2.2.2.2.2.2.2.2.1,(g.2.2.2.2.2.2.2.2.2.2.1,(g.2.2.2.2.2.2.2.2.2.2.2.1,(g.2.2.2.2.2.2.2.2.2.2.2.2.1,(g.2.2.2.2.2.2.2.2.2.2.2.2.2.1,((p.ar .add .i64 g.2.2.2.2.2.2.2.2.2.2.2.2.2.2.1 1),()))))))))))))))))) (
 nD E<|
 nD A<|
 nD A<|
 nD E<|
 nD F<|
 rT (eAm (a.1,(a.2.1,(K,(T,(P,(Q,(X,(U,(I,(O,(M,N))))))))))))))
def w6w (p:Prim):V60v→Option (V60v⊕V47v):=
 fun a=>let L:=p.len a.2.2.1;let B:=p.eqN L L;let E:=p.len a.2.2.2.1;let F:=p.eqN 0 0;let J:=a.2.2.2.2.2.2.2.2.2.1;let K:=a.2.2.2.2.2.2.2.2.1; opt.run _ (
 aK (p.cmp .lss J K) (
 nD F<|
 nD B<|
 nD B<|
 nD F<|
 nD (p.eqN E E)<|
 nD F<|
 nD B<|
 nD B<|
 opt.bnd (V59v) _ (
 z1a (y8n p) (a.1,(a.2.1,(a.2.2.1,(a.2.2.2.1,(a.2.2.2.2.1,(a.2.2.2.2.2.1,(a.2.2.2.2.2.2.1,(a.2.2.2.2.2.2.2.1,((-1:Int),(a.2.2.2.2.2.2.1,(a.2.2.2.2.2.2.2.1,(K,(J,((p.ofNat L),((0:Int),())))))))))))))))) fun b=>let G:=b.2.2.2.2.2.2.2.2.1;let C:=p.add b.2.2.2.2.1 (p.nat G);let I:=p.len b.2.2.1;
 opt.bnd (V0v) _ (G72 p (b.2.2.2.2.2.2.1,(b.2.2.2.2.2.2.2.1,(G,())))) fun c=>
 nD (bif (p.cmp .geq G 0) then (p.cmp .lss G (p.ofNat b.2.2.2.2.2.1)) else false)<|
 nD (p.rowOk b.1 C [ci,ci,(CK.list 1),ci])<|
 opt.bnd (V12v) _ (G75 p ((p.rdI b.1 C 0),((p.rdI b.1 C 1),((p.rdL b.1 C 2),((p.rdI b.1 C 3),()))))) fun d=>let A:=[[(D.int .i64 d.1),(D.int .i64 d.2.1),(D.list false 1 d.2.2.1),(D.int .i64 d.2.2.2.1)]];let H:=p.app (p.cut b.2.2.2.1 0 E) (p.cut A 0 1);
 nD (p.and (p.leN (p.add 0 1) (p.len A)) (p.and (p.leN (p.add 0 E) (p.len b.2.2.2.1)) (p.and (p.leN 1 1) (p.leN (p.add E 1) 1000000))))<|
 nD F<|
 nD (p.eqN I I)<|
 nD (p.eqN I I)<|
 nD F<|
 nD (p.eqN (p.add E 1) (p.len H))<|
 rT (eAs (b.1,(b.2.1,(b.2.2.1,(H,(b.2.2.2.2.1,(b.2.2.2.2.2.1,(c.1,(c.2.1,(K,((p.ar .add .i64 J 1),())))))))))))) (
 nD F<|
 nD B<|
 nD B<|
 nD F<|
 nD (p.eqN E E)<|
 rT (eAm (a.1,(a.2.1,(a.2.2.1,(a.2.2.2.1,(a.2.2.2.2.1,(a.2.2.2.2.2.1,())))))))))
def G67:(p:Prim)→V5v→Option (V47v):=
 fun p x=>let A:=p.len x.2.2.1;
 nD (p.eqN 0 0)<|
 nD (p.eqN A A)<|
 nD (p.eqN A A)<|
 opt.bnd (V47v) _ (
 z1a (w6w p) (x.1,(x.2.1,(x.2.2.1,([],(x.2.2.2.1,(x.2.2.2.2.1,((0:Int),((0:Int),((p.ofNat x.2.2.2.2.1),((0:Int),()))))))))))) fun a=>let B:=p.len a.2.2.1;
 nD (p.eqN 0 0)<|
 nD (p.eqN B B)<|
 nD (p.eqN B B)<|
 nD (p.eqN 0 0)<|
 nD (p.eqN (p.len a.2.2.2.1) (p.len a.2.2.2.1))<|
 rT a
theorem ok67:CtrOk PG u4c (G67 std):=okF vD (a:=an67) (l:=la67) (gC ok75 (gC u9h (gC u0o (gC v9d (gN)))))
end Go.Am
end
section
namespace Go.Am
namespace D12
structure Sg where
 a:Nat
 b:Nat
 ha:a<2 ^ 64
 hb:b<2 ^ 64
def Sg.has (s:Sg) (i:Nat):Bool:=if i<64 then s.a.testBit i else s.b.testBit (i - 64)
def Sg.none:Sg:=⟨0,0,by omega,by omega⟩
def Sg.wth (s:Sg) (k:Nat):Sg:=
 if h:k<64 then ⟨s.a|||2 ^ k,s.b,Nat.or_lt_two_pow s.ha (eGo (by omega) h),s.hb⟩
 else if h:k<128 then ⟨s.a,s.b|||2 ^ (k - 64),s.ha,Nat.or_lt_two_pow s.hb (eGo (by omega) (by omega))⟩
 else s
def Sg.or (s t:Sg):Sg:=⟨s.a|||t.a,s.b|||t.b,Nat.or_lt_two_pow s.ha t.ha,Nat.or_lt_two_pow s.hb t.hb⟩
def Sg.and (s t:Sg):Sg:=⟨s.a&&&t.a,s.b&&&t.b,Nat.lt_of_le_of_lt Nat.and_le_left s.ha,Nat.lt_of_le_of_lt Nat.and_le_left s.hb⟩
theorem Sg.has_none (i:Nat):Sg.none.has i=false:=by
 unfold Sg.has Sg.none; split<;>exact Nat.zero_testBit _
theorem Sg.has_wth (s:Sg) {k:Nat} (b:k<128) (i:Nat):(s.wth k).has i=(s.has i||decide (i=k)):=by
 unfold Sg.wth
 by_cases h:k<64
 ·rw [dif_pos h]
  unfold Sg.has
  simp only
  by_cases a:i<64
  ·rw [if_pos a,if_pos a,Nat.testBit_or,Nat.testBit_two_pow]
   congr 1
   exact decide_eq_decide.2 ⟨fun h=>h.symm,fun h=>h.symm⟩
  ·rw [if_neg a,if_neg a]
   have:¬ i=k:=by omega
   simp [this]
 ·rw [dif_neg h,dif_pos b]
  unfold Sg.has
  simp only
  by_cases a:i<64
  ·rw [if_pos a,if_pos a]
   have:¬ i=k:=by omega
   simp [this]
  ·rw [if_neg a,if_neg a,Nat.testBit_or,Nat.testBit_two_pow]
   congr 1
   exact decide_eq_decide.2 (by omega)
theorem Sg.has_or (s t:Sg) (i:Nat):(s.or t).has i=(s.has i||t.has i):=by
 unfold Sg.has Sg.or
 simp only
 split<;>exact Nat.testBit_or ..
theorem Sg.has_and (s t:Sg) (i:Nat):(s.and t).has i=(s.has i&&t.has i):=by
 unfold Sg.has Sg.and
 simp only
 split<;>exact Nat.testBit_and ..
theorem Sg.ext_has {s t:Sg} (h:∀ i,i<128→s.has i=t.has i):s.a=t.a∧s.b=t.b:=by
 constructor
 ·refine Nat.eq_of_testBit_eq fun i=>?_
  by_cases c:i<64
  ·have:=h i (by omega)
   unfold Sg.has at this
   rwa [if_pos c,if_pos c] at this
  ·have p:2 ^ 64≤2 ^ i:=Nat.pow_le_pow_right (by omega) (by omega)
   rw [Nat.testBit_lt_two_pow (eBc s.ha p),Nat.testBit_lt_two_pow (eBc t.ha p)]
 ·refine Nat.eq_of_testBit_eq fun i=>?_
  by_cases c:i<64
  ·have:=h (i+64) (by omega)
   unfold Sg.has at this
   rwa [if_neg (by omega),if_neg (by omega),Nat.add_sub_cancel] at this
  ·have p:2 ^ 64≤2 ^ i:=Nat.pow_le_pow_right (by omega) (by omega)
   rw [Nat.testBit_lt_two_pow (eBc s.hb p),Nat.testBit_lt_two_pow (eBc t.hb p)]
theorem Sg.and_sub {s t:Sg}:((s.and t).a=s.a∧(s.and t).b=s.b)↔∀ i,i<128→s.has i=true→t.has i=true:=by
 constructor
 ·rintro ⟨g,f⟩ i c h
  have e:(s.and t).has i=s.has i:=by unfold Sg.has; rw [g,f]
  rw [Sg.has_and,h] at e
  simpa using e
 ·intro h
  refine Sg.ext_has fun i c=>?_
  rw [Sg.has_and]
  cases d:s.has i with
  |false=>rfl
  |true=>rw [h i c d]; rfl
end D12
theorem x5s {n:Nat} (h:n<2 ^ 64):IntKind.u64.wrap (n:Int)=(n:Int):=by
 have e:IntKind.u64.wrap (n:Int)=(n:Int) % 18446744073709551616:=by
  unfold IntKind.wrap
  simp [IntKind.signed,IntKind.bits]
 rw [e]
 omega
theorem ofI (n:Nat):eFb 64 (n:Int)=BitVec.ofNat 64 n:=by simp
theorem u7k {a b:Nat} (d:a<2 ^ 64) (c:b<2 ^ 64):std.ar .or .u64 (a:Int) (b:Int)=((a|||b:Nat):Int):=by
 show IntKind.u64.wrap (((eFb 64 (a:Int)|||eFb 64 (b:Int)).toNat:Nat):Int)=_
 rw [ofI,ofI,BitVec.toNat_or,BitVec.toNat_ofNat,BitVec.toNat_ofNat,eDz d,eDz c,x5s (Nat.or_lt_two_pow d c)]
theorem v45 {a b:Nat} (c:a<2 ^ 64) (d:b<2 ^ 64):std.ar .and .u64 (a:Int) (b:Int)=((a&&&b:Nat):Int):=by
 show IntKind.u64.wrap (((eFb 64 (a:Int)&&&eFb 64 (b:Int)).toNat:Nat):Int)=_
 rw [ofI,ofI,BitVec.toNat_and,BitVec.toNat_ofNat,BitVec.toNat_ofNat,eDz c,eDz d,x5s (Nat.lt_of_le_of_lt Nat.and_le_left c)]
theorem v9t {i:Nat} (h:i<64):std.ar .shl .u64 1 (i:Int)=((2 ^ i:Nat):Int):=by
 show IntKind.u64.wrap (1*2 ^ (min ((i:Int)).toNat 64))=_
 have:min ((i:Int)).toNat 64=i:=by omega
 rw [this,Int.one_mul]
 have e:((2:Int) ^ i)=((2 ^ i:Nat):Int):=by simp
 rw [e,x5s (eGo (by omega) h)]
theorem v9u {a i:Nat} (c:a<2 ^ 64) (h:i<64):std.cmp .eql (std.ar .and .u64 (std.ar .shr .u64 (a:Int) (i:Int)) 1) 1=a.testBit i:=by
 have d:std.ar .shr .u64 (a:Int) (i:Int)=((a / 2 ^ i:Nat):Int):=by
  show Int.fdiv (a:Int) (2 ^ (min ((i:Int)).toNat 64))=_
  have:min ((i:Int)).toNat 64=i:=by omega
  rw [this]
  have e:((2:Int) ^ i)=((2 ^ i:Nat):Int):=by simp
  rw [e,Int.fdiv_eq_ediv_of_nonneg _ (Int.natCast_nonneg _)]
  exact (Int.natCast_ediv ..).symm
 have b:a / 2 ^ i<2 ^ 64:=Nat.lt_of_le_of_lt (Nat.div_le_self ..) c
 rw [d,show (1:Int)=((1:Nat):Int) from rfl,v45 b (by omega),Nat.and_one_is_mod,x59,Nat.testBit_eq_decide_div_mod_eq]
 exact decide_eq_decide.2 (by omega)
theorem u1q {i:Nat} (h:i<128):std.ar .quo .i64 (i:Int) 64=if i<64 then 0 else 1:=by
 rw [w0y,Int.tdiv_eq_ediv_of_nonneg (by omega),y5q _ (by omega) (by omega)]
 split<;>omega
theorem u1p {i:Nat} (h:i<128):std.ar .rem .i64 (i:Int) 64=((if i<64 then i else i - 64:Nat):Int):=by
 rw [w0x,Int.tmod_eq_emod_of_nonneg (by omega)]
 split<;>omega
end Go.Am
end
section
namespace Go.Am.D12
inductive Tc (B:Cd→Cd→Bool):Cd→Cd→Prop
 |one {x y:Cd}:B x y=true→Tc B x y
 |step {x y z:Cd}:Tc B x y→B y z=true→Tc B x z
theorem Tc.trans {B:Cd→Cd→Bool} {x y z:Cd} (h:Tc B x y) (k:Tc B y z):Tc B x z:=by
 induction k with
 |one k=>exact h.step k
 |step _ k a=>exact a.step k
theorem Tc.mono {B C:Cd→Cd→Bool} (a:∀ x y,B x y=true→Tc C x y) {x y:Cd} (h:Tc B x y):Tc C x y:=by
 induction h with
 |one h=>exact a _ _ h
 |step _ h b=>exact b.trans (a _ _ h)
theorem Tc.last {B:Cd→Cd→Bool} {x y:Cd} (h:Tc B x y):B x y=true∨∃ z,Tc B x z∧B z y=true:=by
 cases h with
 |one h=>exact .inl h
 |step h k=>exact .inr ⟨_,h,k⟩
def clo (B:Cd→Cd→Bool):List Cd→Cd→Cd→Bool
 |[]=>B
 |k::ks=>clo (fun i j=>B i j||(B i k&&B k j)) ks
theorem v38 {B:Cd→Cd→Bool}:∀ {ks:List Cd} {x y:Cd},clo B ks x y=true→Tc B x y
 |[],x,y,h=> .one h
 |k::ks,x,y,h=>by
  have:=v38 (ks:=ks) h
  refine this.mono fun u v b=>?_
  simp only [eBh,eAf] at b
  rcases b with a|a
  ·exact .one a
  ·exact (Tc.one a.1).step a.2
theorem x17 {B:Cd→Cd→Bool}:∀ {ks:List Cd} {x y:Cd},B x y=true→clo B ks x y=true
 |[],_,_,h=>h
 |k::ks,x,y,h=>x17 (ks:=ks) (by simp [h])
theorem x47 {B:Cd→Cd→Bool} {k:Cd} (e:∀ x y,B x k=true→B k y=true→B x y=true):∀ {ks:List Cd} {x y:Cd},clo B ks x k=true→clo B ks k y=true→clo B ks x y=true
 |[],x,y,i,h=>e x y i h
 |m::ks,x,y,i,h=>by
  refine x47 (ks:=ks) (k:=k) ?_ i h
  intro u v d b
  simp only [eBh,eAf] at d b⊢
  rcases d with d|⟨c,g⟩<;>rcases b with b|⟨f,a⟩
  ·exact .inl (e _ _ d b)
  ·exact .inr ⟨e _ _ d f,a⟩
  ·exact .inr ⟨c,e _ _ g b⟩
  ·exact .inr ⟨c,a⟩
theorem w6e {B:Cd→Cd→Bool}:∀ {ks:List Cd} {k:Cd},k∈ks→∀ {x y:Cd},clo B ks x k=true→clo B ks k y=true→clo B ks x y=true
 |[],_,h,_,_,_,_=>by cases h
 |m::ks,k,h,x,y,f,e=>by
  rcases eBa.1 h with rfl|h
  ·refine x47 (B:=fun i j=>B i j||(B i k&&B k j)) (ks:=ks) ?_ f e
   intro u v d b
   simp only [eBh,eAf] at d b⊢
   rcases d with d|⟨c,_⟩<;>rcases b with b|⟨_,a⟩
   ·exact .inr ⟨d,b⟩
   ·exact .inr ⟨d,a⟩
   ·exact .inr ⟨c,b⟩
   ·exact .inr ⟨c,a⟩
  ·exact w6e (ks:=ks) h f e
theorem w6f {B:Cd→Cd→Bool} {g:List Cd} (b:∀ x y,B x y=true→x∈g) {x y:Cd}:clo B g x y=true↔Tc B x y:=by
 refine ⟨v38,fun h=>?_⟩
 induction h with
 |one h=>exact x17 h
 |step h k a=>exact w6e (b _ _ k) a (x17 k)
def pre (l:List Cd) (c:Cd):List Cd:=l.take (l.idxOf c)
theorem w3z {l p r:List Cd} {c:Cd} (h:l=p++c::r) (a:c∉p):pre l c=p:=by
 subst h
 unfold pre
 rw [u1n a]; simp
theorem w4p {l:List Cd} {c d:Cd} (g:d∈l):d∈pre l c↔l.idxOf d<l.idxOf c:=by
 unfold pre
 constructor
 ·intro h
  obtain ⟨i,b,he⟩:=eBs.1 h
  have f:=b
  rw [eCk] at b
  rw [List.getElem_take] at he
  have:l.idxOf d≤i:=by
   refine Nat.le_of_not_lt fun a=>?_
   have:=List.not_of_lt_findIdx (p:=(· ==d)) (xs:=l) (i:=i) a
   rw [he] at this
   simp at this
  omega
 ·intro h
  have a:=List.idxOf_lt_length_iff.2 g
  have e:(l.take (l.idxOf c))[l.idxOf d]'(by rw [eCk]; omega)=d:=by
   rw [List.getElem_take,eGk]
  exact e▸eDe _
def ltc (l:List Cd) (d c:Cd):Bool:=decide (c∈l)&&c.t.any fun x=>decide ((on x (pre l c)).getLast?=some d)
theorem z9e {l:List Cd} {d c:Cd}:ltc l d c=true↔c∈l∧∃ x∈c.t,(on x (pre l c)).getLast?=some d:=by simp [ltc]
theorem w3y {l:List Cd} {c d:Cd} (h:d∈pre l c):d∈l:=List.mem_of_mem_take h
theorem y1z {l:List Cd} {d c:Cd} (h:ltc l d c=true):ord l d c=true∧d∈l:=by
 obtain ⟨i,x,e,f⟩:=z9e.1 h
 have g:=eGp f
 have a:=y2r.1 g
 have b:=w3y a.1
 exact ⟨z6k.2 ⟨y3i.2 ⟨x,a.2,e⟩,(w4p b).1 a.1⟩,b⟩
theorem v5n {l:List Cd} (s:l.Nodup) {d c:Cd} (t:d∈l) (w:c∈l) (h:ord l d c=true):ltc l d c=true∨∃ z∈l,ord l d z=true∧ltc l z c=true:=by
 obtain ⟨p,m⟩:=z6k.1 h
 obtain ⟨x,b,k⟩:=y3i.1 p
 have a:d∈on x (pre l c):=y2r.2 ⟨(w4p t).2 m,b⟩
 cases i:(on x (pre l c)).getLast? with
 |none=>rw [List.getLast?_eq_none_iff] at i; rw [i] at a; cases a
 |some z=>
  have o:=eGp i
  have j:=w3y (y2r.1 o).1
  have g:ltc l z c=true:=z9e.2 ⟨w,x,k,i⟩
  by_cases e:d=z
  ·subst e; exact .inl g
  ·right
   refine ⟨z,j,z6k.2 ⟨y3i.2 ⟨x,b,(y2r.1 o).2⟩,?_⟩,g⟩
   have f:(on x (pre l c)).Pairwise fun u v=>l.idxOf u<l.idxOf v:=((w5d s).sublist (List.take_sublist _ _)).filter _
   obtain ⟨q,r⟩:∃ q,on x (pre l c)=q++[z]:=⟨_,List.getLast?_eq_some_iff.1 i|>.choose_spec⟩
   rw [r] at f a
   rcases eBx.1 a with n|n
   ·exact (List.pairwise_append.1 f).2.2 d n z eBv
   ·exact absurd (eBn.1 n) e
def y0h (a b:List Cd) (x y:Cd):Bool:=decide (x∈a)&&decide (y∈a)&&ord a x y||decide (x∈b)&&decide (y∈b)&&ord b x y
def z69 (a b:List Cd) (x y:Cd):Bool:=ltc a x y||ltc b x y
theorem z8u {a b:List Cd} {x y:Cd}:y0h a b x y=true↔(x∈a∧y∈a∧ord a x y=true)∨(x∈b∧y∈b∧ord b x y=true):=by
 simp [y0h,and_assoc]
theorem z7u {a b:List Cd} {x y:Cd} (h:z69 a b x y=true):y0h a b x y=true:=by
 unfold z69 at h
 simp only [eBh] at h
 rcases h with h|h
 ·exact z8u.2 (.inl ⟨(y1z h).2,(z9e.1 h).1,(y1z h).1⟩)
 ·exact z8u.2 (.inr ⟨(y1z h).2,(z9e.1 h).1,(y1z h).1⟩)
theorem w37 {l:List Cd} (k:l.Nodup):∀ (n:Nat) (x y:Cd),x∈l→y∈l→l.idxOf y - l.idxOf x≤n→ord l x y=true→Tc (ltc l) x y:=by
 intro n
 induction n with
 |zero=>intro x y _ _ d h; have:=(z6k.1 h).2; omega
 |succ n g=>
  intro x y e j d h
  rcases v5n k e j h with c|⟨z,i,c,f⟩
  ·exact .one c
  ·have a:=(z6k.1 (y1z f).1).2
   have b:=(z6k.1 c).2
   exact (g x z e i (by omega) c).step f
theorem w40 {a b:List Cd} (g:a.Nodup) (f:b.Nodup) {x y:Cd} (h:y0h a b x y=true):Tc (z69 a b) x y:=by
 rcases z8u.1 h with ⟨e,d,c⟩|⟨e,d,c⟩
 ·exact (w37 g _ x y e d (eAp _) c).mono fun u v h=> .one (by simp [z69,h])
 ·exact (w37 f _ x y e d (eAp _) c).mono fun u v h=> .one (by simp [z69,h])
theorem x0s {a b:List Cd} (d:a.Nodup) (c:b.Nodup) {x y:Cd}:Tc (z69 a b) x y↔Tc (y0h a b) x y:=
 ⟨fun h=>h.mono fun _ _ h=> .one (z7u h),fun h=>h.mono fun _ _ h=>w40 d c h⟩
def z1j (a b:List Cd):List Cd:=a++b.filter fun c=>!(a.any fun d=>decide (d.n=c.n))
theorem y66 {a b:List Cd} (l:∀ x∈a,∀ y∈b,x.n=y.n→x=y) {x y:Cd} (h:y0h a b x y=true):x∈z1j a b∧y∈z1j a b:=by
 have k:∀ z∈b,z∈z1j a b:=fun z f=>by
  unfold z1j
  by_cases e:∃ d∈a,d.n=z.n
  ·obtain ⟨d,g,he⟩:=e
   rw [←l d g z f he]; exact eDp _ g
  ·refine List.mem_append_right _ (eDb.2 ⟨f,?_⟩)
   simp only [eCy,eFg,decide_eq_true_eq]
   exact fun d g he=>e ⟨d,g,he⟩
 have c:∀ z∈a,z∈z1j a b:=fun z f=>eDp _ f
 rcases z8u.1 h with ⟨j,i,_⟩|⟨j,i,_⟩
 ·exact ⟨c _ j,c _ i⟩
 ·exact ⟨k _ j,k _ i⟩
theorem y2s {a b:List Cd} (f:∀ x∈a,∀ y∈b,x.n=y.n→x=y) {z:Cd}:z∈z1j a b↔z∈a∨z∈b:=by
 unfold z1j
 rw [eBx]
 constructor
 ·rintro (h|h)
  ·exact .inl h
  ·exact .inr (eDb.1 h).1
 ·rintro (h|h)
  ·exact .inl h
  ·by_cases e:∃ d∈a,d.n=z.n
   ·obtain ⟨d,c,he⟩:=e
    left; rw [←f d c z h he]; exact c
   ·refine .inr (eDb.2 ⟨h,?_⟩)
    simp only [eCy,eFg,decide_eq_true_eq]
    exact fun d c he=>e ⟨d,c,he⟩
theorem w7j {a b:List Cd} (k:(a.map (·.n)).Nodup) (j:(b.map (·.n)).Nodup):((z1j a b).map (·.n)).Nodup:=by
 unfold z1j
 rw [List.map_append,List.nodup_append]
 refine ⟨k,j.sublist (List.filter_sublist.map _),fun x g y f e=>?_⟩
 obtain ⟨c,i,rfl⟩:=eBq.1 g
 obtain ⟨d,h,rfl⟩:=eBq.1 f
 have:=(eDb.1 h).2
 simp only [eCy,eFg,decide_eq_true_eq] at this
 exact this c i e
def kn (a b:List Cd):Cd→Cd→Bool:=clo (y0h a b) (z1j a b)
def knL (a b:List Cd):Cd→Cd→Bool:=clo (z69 a b) (z1j a b)
theorem y9m {a b:List Cd} (c:∀ x∈a,∀ y∈b,x.n=y.n→x=y) {x y:Cd}:kn a b x y=true↔Tc (y0h a b) x y:=w6f fun _ _ h=>(y66 c h).1
theorem u1h {a b:List Cd} (e:a.Nodup) (d:b.Nodup) (c:∀ x∈a,∀ y∈b,x.n=y.n→x=y):knL a b=kn a b:=by
 funext x y
 rw [eBu,y9m c,knL,w6f fun _ _ h=>(y66 c (z7u h)).1,x0s e d]
def z1y (a b:List Cd):Int:=
 if z13 a≠0 then z13 a else if z13 b≠0 then z13 b
 else if ∃ x∈a,∃ y∈b,x.n=y.n∧x≠y then 15 else 0
theorem x7n {a b:List Cd}:z1y a b=0↔z13 a=0∧z13 b=0∧∀ x∈a,∀ y∈b,x.n=y.n→x=y:=by
 unfold z1y
 constructor
 ·intro h
  split at h
  ·exact absurd h ‹_›
  ·split at h
   ·exact absurd h ‹_›
   ·split at h
    ·exact absurd h (by decide)
    ·rename_i i g f
     refine ⟨by simpa using i,by simpa using g,fun x e y d he=>eDq fun c=>f ⟨x,e,y,d,he,c⟩⟩
 ·rintro ⟨i,g,f⟩
  rw [if_neg (by simpa using i),if_neg (by simpa using g),if_neg]
  rintro ⟨x,e,y,d,he,c⟩
  exact c (f x e y d he)
def v9b (a b:List Cd):Prop:=∃ x∈z1j a b,∃ y∈z1j a b,x≠y∧tch x y=true∧kn a b x y=false∧kn a b y x=false
instance (a b:List Cd):Decidable (v9b a b):=inferInstanceAs (Decidable (∃ x,x∈z1j a b∧∃ y,y∈z1j a b∧x≠y∧tch x y=true∧kn a b x y=false∧kn a b y x=false))
def circ (a b:List Cd):Prop:=∃ x∈z1j a b,kn a b x x=true
instance (a b:List Cd):Decidable (circ a b):=inferInstanceAs (Decidable (∃ x,x∈z1j a b∧kn a b x x=true))
def y3w (a b:List Cd):Int:=
 if z1y a b≠0 then z1y a b
 else if 60<(z1j a b).length then 6
 else if circ a b then 24
 else if v9b a b then 16 else 0
def z2m (a b:List Cd):List Cd:=if y3w a b=0 then lst (kn a b) (z1j a b).length (z1j a b) else []
def circSt (a b:List Cd):Int:=if z1y a b≠0 then z1y a b else if circ a b then 0 else 5
theorem x66 {B:Cd→Cd→Bool} {g rem:List Cd} (l:∀ x y,B x y=true→x∈g) (a:∀ z∈g,Tc B z z→z∈rem) {c:Cd} (j:∀ d∈rem,B d c=false):∀ z∈g,Tc B z z→z∈rm c rem:=by
 intro z i b
 refine y0f.2 ⟨a z i b,fun e=>?_⟩
 subst e
 rcases b.last with h|⟨y,m,f⟩
 ·have:=j z (a z i b); rw [h] at this; cases this
 ·have k:y∈rem:=a y (l _ _ f) ((Tc.one f).trans m)
  have:=j y k; rw [f] at this; cases this
end Go.Am.D12
end
section
namespace Go.Am
open D12
def eI (n:Int):List D:=[.int .i64 n]
def z0i (l:List Int):List (List D):=l.map eI
def eC (fl:List Int→Bool) (c:Cd):List D:=[.int .i64 c.n, .int .i64 c.k, .list (fl c.t) 1 (z0i c.t), .int .i64 c.a]
def z0a (fl:List Int→Bool) (l:List Cd):List (List D):=l.map (eC fl)
def eTh (t:Th):List D:=[.int .i64 t.num, .int .i64 t.val, .int .i64 t.hrs, .bool t.out]
def z02 (l:List Th):List (List D):=l.map eTh
variable {fl fl':List Int→Bool}
theorem z1n (n:Int):z2v [CK.int IntKind.i64] (eI n)=true:=rfl
theorem z6v (n:Int):dI ((eI n)[0]?.getD D.nilp)=n:=rfl
theorem v1f (c:Cd):z2v [CK.int IntKind.i64,CK.int IntKind.i64,CK.list 1,CK.int IntKind.i64] (eC fl c)=true:=rfl
theorem u3p (c:Cd):dI ((eC fl c)[0]?.getD D.nilp)=c.n:=rfl
theorem u3o (c:Cd):dI ((eC fl c)[1]?.getD D.nilp)=c.k:=rfl
theorem u3m (c:Cd):dL ((eC fl c)[2]?.getD D.nilp)=z0i c.t:=rfl
theorem u3n (c:Cd):dI ((eC fl c)[3]?.getD D.nilp)=c.a:=rfl
theorem v3p (c:Cd):dF 1 ((eC fl c)[2]?.getD D.nilp)=fl c.t:=by
 show (fl c.t&&(eAk 1 1||_))=_
 cases fl c.t<;>rfl
theorem w6i (t:Th):z2v [CK.int IntKind.i64,CK.int IntKind.i64,CK.int IntKind.i64,CK.bool] (eTh t)=true:=rfl
theorem v7x (t:Th):dI ((eTh t)[0]?.getD D.nilp)=t.num:=rfl
theorem v7w (t:Th):dI ((eTh t)[1]?.getD D.nilp)=t.val:=rfl
theorem v7v (t:Th):dI ((eTh t)[2]?.getD D.nilp)=t.hrs:=rfl
theorem v7z (t:Th):dB ((eTh t)[3]?.getD D.nilp)=t.out:=rfl
theorem y3q {fl:List Int→Bool} {l:List Cd} {i:Nat} {c:Cd} (h:l[i]?=some c):(l.map (eC fl))[i]?=some (eC fl c):=by
 rw [eAj,h]; rfl
theorem w86 {l:List Int} {i:Nat} {c:Int} (h:l[i]?=some c):(l.map eI)[i]?=some (eI c):=by
 rw [eAj,h]; rfl
theorem u0f {fl:List Int→Bool} {l:List Cd} {i:Nat} {c:Cd} (h:l[i]?=some c):std.rdF (l.map (eC fl)) i 2 1=fl c.t:=by
 show dF 1 (((l.map (eC fl))[i]?.bind fun r=>r[2]?).getD .nilp)=_
 rw [y3q h]; exact v3p c
theorem z3j:(∀ {fl:List Int→Bool} (c:Cd),z2v [CK.int IntKind.i64,CK.int IntKind.i64,CK.list 1,CK.int IntKind.i64] (eC fl c)=true)∧(∀ {fl:List Int→Bool} (c:Cd),dI ((eC fl c)[0]?.getD D.nilp)=c.n)∧(∀ {fl:List Int→Bool} (c:Cd),dI ((eC fl c)[1]?.getD D.nilp)=c.k)∧(∀ {fl:List Int→Bool} (c:Cd),dL ((eC fl c)[2]?.getD D.nilp)=z0i c.t)∧(∀ {fl:List Int→Bool} (c:Cd),dI ((eC fl c)[3]?.getD D.nilp)=c.a)∧(∀ {fl:List Int→Bool} (c:Cd),dF 1 ((eC fl c)[2]?.getD D.nilp)=fl c.t)∧
  (∀ n:Int,z2v [CK.int IntKind.i64] (eI n)=true)∧(∀ n:Int,dI ((eI n)[0]?.getD D.nilp)=n)∧
  (∀ t:Th,z2v [CK.int IntKind.i64,CK.int IntKind.i64,CK.int IntKind.i64,CK.bool] (eTh t)=true)∧(∀ t:Th,dI ((eTh t)[0]?.getD D.nilp)=t.num)∧(∀ t:Th,dI ((eTh t)[1]?.getD D.nilp)=t.val)∧(∀ t:Th,dI ((eTh t)[2]?.getD D.nilp)=t.hrs)∧(∀ t:Th,dB ((eTh t)[3]?.getD D.nilp)=t.out):=
 ⟨v1f,u3p,u3o,u3m,u3n,v3p,z1n,z6v,w6i,v7x,v7w,v7v,v7z⟩
theorem z0w (l:List Int):(z0i l).length=l.length:=by simp [z0i]
theorem z0r (l:List Cd):(z0a fl l).length=l.length:=by simp [z0a]
theorem z3b {S R:Type} {b:S→Option (S⊕R)} (n:Nat) (e:Nat→S) (P:Nat→Bool) (r:Nat→R) (a:R)
  (step:∀ i,i<n→b (e i)=if P i=true then some (.inr (r i)) else some (.inl (e (i+1)))) (stop:b (e n)=some (.inr a)):
  z1a b (e 0)=some (match (eAv n).find? P with|some i=>r i|none=>a):=by
 have key:∀ k m,n - m=k→m≤n→z1a b (e m)=some (match (List.range' m (n - m)).find? P with|some i=>r i|none=>a):=by
  intro k
  induction k with
  |zero=>
   intro m hm d
   have:m=n:=by omega
   subst this
   rw [z17,stop,Nat.sub_self]; rfl
  |succ k f=>
   intro m hm d
   have c:m<n:=by omega
   rw [z17,step m c,hm,List.range'_succ,List.find?_cons]
   cases g:P m with
   |true=>simp
   |false=>
    simp only [eAh,if_false]
    have:=f (m+1) (by omega) c
    rw [this,show n - (m+1)=k by omega]
 have:=key n 0 rfl (eBb _)
 rw [this,eGs,List.range_eq_range']
theorem z11 {S R:Type} {b:S→Option (S⊕R)} (n:Nat) (e:Nat→S) (P:Nat→Bool) (r a:R)
  (step:∀ i,i<n→b (e i)=if P i=true then some (.inr r) else some (.inl (e (i+1)))) (stop:b (e n)=some (.inr a)):
  z1a b (e 0)=some (if (eAv n).any P=true then r else a):=by
 rw [z3b n e P (fun _=>r) a step stop]
 cases h:(eAv n).find? P with
 |none=>
  have:(eAv n).any P=false:=by
   rw [eFg]
   rw [eFn] at h
   exact h
  simp [this]
 |some i=>
  have:(eAv n).any P=true:=eBd.2 ⟨i,eCv h,eFj h⟩
  simp [this]
theorem w9z {S R:Type} {b:S→Option (S⊕R)} (n:Nat) (e:Nat→S) (a:R)
  (step:∀ i,i<n→b (e i)=some (.inl (e (i+1)))) (stop:b (e n)=some (.inr a)):z1a b (e 0)=some a:=by
 rw [z3b n e (fun _=>false) (fun _=>a) a (fun i c=>by rw [step i c]; rfl) stop]
 have:(eAv n).find? (fun _=>false)=none:=by simp
 rw [this]
theorem stp (i:Nat) (h:i<9223372036854775807):IntKind.i64.wrap ((i:Int)+1)=((i+1:Nat):Int)∧(0:Int)≤i:=⟨y45 h,by omega⟩
theorem z0p {α:Type} {l:List α} {i:Nat} {d m:α} (h:l[i]?=some m):l.getD i d=m:=by simp [eAr,h]
theorem z6l {α:Type} (l:List α) (d:α) (p:α→Bool):((eAv l.length).any fun i=>p (l.getD i d))=l.any p:=by
 rw [eBu,eBd,eBd]
 constructor
 ·rintro ⟨i,a,h⟩
  have a:=eBj.1 a
  obtain ⟨m,hm⟩:=z0d a
  rw [z0p hm] at h
  exact ⟨m,eAn hm,h⟩
 ·rintro ⟨x,b,h⟩
  obtain ⟨i,a,rfl⟩:=eBs.1 b
  exact ⟨i,eBj.2 a,by rw [z0p (eAd a)]; exact h⟩
theorem y5f {α:Type} (l:List α) (d:α) (p:α→Bool):((eAv l.length).find? fun i=>p (l.getD i d)).map (fun i=>l.getD i d)=l.find? p:=by
 have a:l=(eAv l.length).map fun i=>l.getD i d:=by
  apply List.ext_getElem (by simp)
  intro i b c
  simp [eAr,b]
 conv=>rhs; rw [a]
 rw [List.find?_map]
 rfl
theorem w4i {α:Type} [DecidableEq α] {a b:List α} (d:α) (h:a.length=b.length):((eAv a.length).any fun i=>!decide (a.getD i d=b.getD i d))=!decide (a=b):=by
 rw [eBu,eBd]
 simp only [eCy,decide_eq_false_iff_not,eBj]
 constructor
 ·rintro ⟨i,k,c⟩ rfl; exact c rfl
 ·intro c
  refine eDq fun e=>c (List.ext_getElem h fun i f j=>?_)
  have:=eDq fun g=>e ⟨i,f,g⟩
  simpa [eAr,f,j] using this
theorem eqL {α:Type} [DecidableEq α] (g f:List α→List (List D)) (he:∀ l,(g l).length=l.length) (q:∀ l,(f l).length=l.length)
  {b:(List (List D)×(List (List D)×(Int×Unit)))→Option ((List (List D)×(List (List D)×(Int×Unit)))⊕((Bool×Unit)⊕Unit))} (a c:List α) (d:α)
  (step:∀ (i:Nat) m k,a[i]?=some m→c[i]?=some k→(i:Int)<a.length→(i:Int)<c.length→b (g a,(f c,((i:Int),())))=if (!decide (m=k))=true then some (.inr (.inl (false,()))) else some (.inl (g a,(f c,(((i+1:Nat):Int),())))))
  (stop:¬ (a.length:Int)<a.length→b (g a,(f c,((a.length:Int),())))=some (.inr (.inr ()))):
  opt.ask _ (std.cmp .neq (std.ofNat (std.len (g a))) (std.ofNat (std.len (f c)))) (opt.ret _ (false,())) (opt.alt (Bool×Unit) Unit _ (z1a b (g a,(f c,((0:Int),())))) (fun y=>opt.ret _ (y.1,())) (fun y=>opt.bnd Unit _ (some y) fun _=>opt.ret _ (true,())))=some (decide (a=c),()):=by
 by_cases o:a.length=c.length
 ·have key:=z11 (b:=b) a.length (fun i=>(g a,(f c,((i:Int),())))) (fun i=>!decide (a.getD i d=c.getD i d)) (.inl (false,())) (.inr ()) (fun i r=>by
   obtain ⟨m,hm⟩:=z0d r
   obtain ⟨k,j⟩:=z0d (l:=c) (i:=i) (by omega)
   rw [z0p hm,z0p j]
   exact step i m k hm j (by omega) (by omega)) (stop (by omega))
  have key:z1a b (g a,(f c,((0:Int),())))=_:=key
  rw [w4i d o] at key
  have p:std.cmp .neq (std.ofNat (std.len (g a))) (std.ofNat (std.len (f c)))=false:=by simp [std,z3z,he,q,o]
  rw [p,key]
  by_cases e:a=c
  ·simp [e,opt]
  ·simp [e,opt]
 ·have n:a≠c:=fun h=>o (by rw [h])
  have p:std.cmp .neq (std.ofNat (std.len (g a))) (std.ofNat (std.len (f c)))=true:=by simp [std,z3z,he,q]; omega
  rw [p]
  simp [n,opt]
theorem v4r (c d:Cd) (G:c.t.length≤1000000):G77 std (c.n,(c.k,(z0i c.t,(c.a,(d.n,(d.k,(z0i d.t,(d.a,()))))))))=some (decide (c=d),()):=by
 obtain ⟨o,p,f,r⟩:=c
 obtain ⟨A,B,g,I⟩:=d
 simp only at G⊢
 unfold G77
 by_cases s:o=A
 ·by_cases x:p=B
  ·by_cases z:r=I
   ·subst s x z
    by_cases y:f.length=g.length
    ·have key:=z11 (b:=w6t std) f.length (fun i=>(o,(p,(z0i f,(r,(o,(p,(z0i g,(r,((i:Int),())))))))))) (fun i=>!decide (f.getD i 0=g.getD i 0)) (.inl (false,())) (.inr ()) (fun i F=>by
      obtain ⟨m,hm⟩:=z0d F
      obtain ⟨J,q⟩:=z0d (l:=g) (i:=i) (by omega)
      obtain ⟨C,H⟩:=stp i (by omega)
      have v:(i:Int)<f.length:=by omega
      have w:(i:Int)<g.length:=by omega
      simp only [z0p hm,z0p q,w6t,z0j,z0k,z0a,z0i,z02,z3j,z0o,eAa,eAb,eAc,hm,q,v,w,H,C]) (by
      have E:¬ (f.length:Int)<f.length:=by omega
      simp only [w6t,z0j,z0k,z0a,z0i,z02,z3j,E])
     have key:z1a (w6t std) (o,(p,(z0i f,(r,(o,(p,(z0i g,(r,((0:Int),())))))))))=_:=key
     rw [w4i 0 y] at key
     have j:((f.length:Nat):Int)=(g.length:Nat):=by omega
     simp only [z0j,z0k,z0w,z0o,eAa,eAb,eAc,j,key]
     by_cases e:f=g<;>simp [e]
    ·have u:f≠g:=fun h=>y (by rw [h])
     have j:¬ ((f.length:Nat):Int)=(g.length:Nat):=by omega
     simp only [z0j,z0k,z0w,z0o,eAa,eAb,eAc,j,Cd.mk.injEq,u]
     simp
   ·simp only [z0j,z0k,z0o,eAa,eAb,eAc,s,x,z,Cd.mk.injEq]
    simp
  ·simp only [z0j,z0k,z0o,eAa,eAb,eAc,s,x,Cd.mk.injEq]
   simp
 ·simp only [z0j,z0k,z0o,eAa,eAb,eAc,s,Cd.mk.injEq]
  simp
theorem u6v (a b:List Cd) (p:a.length≤1000000) (l:∀ c∈a,c.t.length≤1000000):G34 std (z0a fl a,(z0a fl' b,()))=some (decide (a=b),()):=by
 unfold G34
 refine eqL (z0a fl) (z0a fl') z0r z0r a b default (fun i m j hm f g h=>?_) (fun n=>?_)
 ·obtain ⟨k,o⟩:=stp i (by omega)
  have d:=v4r m j (l m (eAn hm))
  simp only [v8j,z0j,z0k,z0a,z0i,z02,z3j,z0o,eAa,eAb,eAc,hm,f,g,h,o,k]
  simp only [z0i] at d
  simp only [d,z0j,z0k]
  by_cases e:m=j<;>simp [e]
 ·simp only [v8j,z0j,z0k,z0a,z0i,z02,z3j,n]
def atO (l:List Cd) (x:Int):Option Nat:=(eAv l.length).find? fun i=>decide ((l.getD i default).n=x)
def atI (l:List Cd) (x:Int):Int:=match atO l x with|some i=>(i:Int)|none=> -1
theorem x0p (l:List Cd) (x:Int) (g:l.length≤1000000):G43 std (z0a fl l,(x,()))=some (atI l x,()):=by
 unfold G43 atI atO
 have key:=z3b (b:=w63 std) l.length (fun i=>(z0a fl l,(x,((i:Int),())))) (fun i=>decide ((l.getD i default).n=x)) (fun i=> .inl ((i:Int),())) (.inr ()) (fun i e=>by
  obtain ⟨m,hm⟩:=z0d e
  obtain ⟨c,f⟩:=stp i (by omega)
  have a:(i:Int)<l.length:=by omega
  simp only [z0p hm,w63,z0j,z0k,z0a,z0i,z02,z3j,z0o,eAa,eAb,eAc,hm,a,f,c]) (by
  have d:¬ (l.length:Int)<l.length:=by omega
  simp only [w63,z0j,z0k,z0a,z0i,z02,z3j,d])
 have key:z1a (w63 std) (z0a fl l,(x,((0:Int),())))=_:=key
 simp only [z0j,z0k,key]
 cases (eAv l.length).find? fun i=>decide ((l.getD i default).n=x)<;>rfl
theorem v2b (c d:Cd) (i:Nat) (m:Int) (hm:c.t[i]?=some m) (s:d.t.length≤1000000):
  z1a (w61 std) (c.n,(c.k,(z0i c.t,(c.a,(d.n,(d.k,(z0i d.t,(d.a,((i:Int),((0:Int),()))))))))))=some (if d.t.contains m=true then .inl (true,()) else .inr (c.n,(c.k,(z0i c.t,(c.a,(d.n,(d.k,(z0i d.t,(d.a,((i:Int),())))))))))):=by
 have key:=z11 (b:=w61 std) d.t.length (fun j=>(c.n,(c.k,(z0i c.t,(c.a,(d.n,(d.k,(z0i d.t,(d.a,((i:Int),((j:Int),()))))))))))) (fun j=>decide (m=d.t.getD j 0)) (.inl (true,())) (.inr (c.n,(c.k,(z0i c.t,(c.a,(d.n,(d.k,(z0i d.t,(d.a,((i:Int),())))))))))) (fun j p=>by
  obtain ⟨r,f⟩:=z0d p
  have l:=y45 (i:=j) (by omega)
  have q:(0:Int)≤i:=by omega
  have h:(0:Int)≤j:=by omega
  have g:(j:Int)<d.t.length:=by omega
  simp only [z0p f,w61,z0j,z0k,z0a,z0i,z02,z3j,z0o,eAa,eAb,eAc,hm,f,g,q,h,l]) (by
  have o:¬ (d.t.length:Int)<d.t.length:=by omega
  simp only [w61,z0j,z0k,z0a,z0i,z02,z3j,o])
 have e:((eAv d.t.length).any fun j=>decide (m=d.t.getD j 0))=d.t.contains m:=by
  rw [z6l d.t 0 fun x=>decide (m=x),List.contains_eq_any_beq]
  congr 1
 rw [e] at key
 exact key
theorem w7v (c d:Cd) (r:c.t.length≤1000000) (o:d.t.length≤1000000):G44 std (c.n,(c.k,(z0i c.t,(c.a,(d.n,(d.k,(z0i d.t,(d.a,()))))))))=some (tch c d,()):=by
 unfold G44
 have key:=z11 (b:=w62 std) c.t.length (fun i=>(c.n,(c.k,(z0i c.t,(c.a,(d.n,(d.k,(z0i d.t,(d.a,((i:Int),())))))))))) (fun i=>d.t.contains (c.t.getD i 0)) (.inl (true,())) (.inr ()) (fun i l=>by
  obtain ⟨m,hm⟩:=z0d l
  obtain ⟨g,p⟩:=stp i (by omega)
  have f:(i:Int)<c.t.length:=by omega
  have h:=v2b c d i m hm o
  simp only [z0i] at h
  simp only [z0p hm,w62,z0j,z0k,z0a,z0i,z02,z3j,z0o,eAa,eAb,eAc,hm,f,p,g,h]
  cases q:d.t.contains m<;>simp [g]) (by
  have j:¬ (c.t.length:Int)<c.t.length:=by omega
  simp only [w62,z0j,z0k,z0a,z0i,z02,z3j,j])
 have key:z1a (w62 std) (c.n,(c.k,(z0i c.t,(c.a,(d.n,(d.k,(z0i d.t,(d.a,((0:Int),())))))))))=_:=key
 rw [z6l c.t 0 fun x=>d.t.contains x] at key
 have e:(c.t.any fun x=>d.t.contains x)=tch c d:=rfl
 rw [e] at key
 simp only [z0j,z0k,key]
 cases tch c d<;>rfl
def x4f (l:List Cd):Bool:=decide (70<l.length)||l.any fun c=>decide (10<c.t.length)
theorem v4w (l:List Cd):G15 std (z0a fl l,())=some (x4f l,()):=by
 unfold G15 x4f
 by_cases f:70<l.length
 ·have d:(70:Int)<l.length:=by omega
  simp only [z0j,z0k,z0r,z0o,eAa,eAb,eAc,d,f,Bool.true_or]
 ·have d:¬ (70:Int)<l.length:=by omega
  have key:=z11 (b:=w69 std) l.length (fun i=>(z0a fl l,((i:Int),()))) (fun i=>decide (10<(l.getD i default).t.length)) (.inl (true,())) (.inr ()) (fun i k=>by
   obtain ⟨m,hm⟩:=z0d k
   obtain ⟨g,n⟩:=stp i (by omega)
   have a:(i:Int)<l.length:=by omega
   have e:((10:Int)<m.t.length)=(10<m.t.length):=propext ⟨fun h=>by omega,fun h=>by omega⟩
   simp only [z0p hm,w69,z0j,z0k,z0a,z0i,z02,z3j,z0o,eAa,eAb,eAc,hm,a,n,g,e]) (by
   have j:¬ (l.length:Int)<l.length:=by omega
   simp only [w69,z0j,z0k,z0a,z0i,z02,z3j,j])
  have key:z1a (w69 std) (z0a fl l,((0:Int),()))=_:=key
  rw [z6l l default fun c=>decide (10<c.t.length)] at key
  simp only [z0j,z0k,z0r,z0o,eAa,eAb,eAc,d,f,key,Bool.false_or]
  cases l.any fun c=>decide (10<c.t.length)<;>rfl
end Go.Am
end
section
namespace Go.Am
section
variable {κ ν:Type} [DecidableEq κ]
def w2m:List (κ×ν)→κ→Nat→Option (Nat×ν)
 |[],_,_=>none
 |(a,v)::r,k,i=>if k=a then some (i,v) else w2m r k (i+1)
def z2k:List (κ×ν)→κ→Option ν
 |[],_=>none
 |(a,v)::r,k=>if k=a then some v else z2k r k
def v8t:List (κ×ν)→κ→ν→List (κ×ν)
 |[],_,_=>[]
 |(a,w)::r,k,v=>if k=a then (k,v)::r else (a,w)::v8t r k v
def x5r (m:List (κ×ν)) (k:κ) (v:ν):List (κ×ν):=match z2k m k with
 |some _=>v8t m k v
 |none=>m++[(k,v)]
theorem y5m (k:κ):∀ (m:List (κ×ν)) (i:Nat),(w2m m k i).map (·.2)=z2k m k
 |[],i=>rfl
 |(a,v)::r,i=>by
  simp only [w2m,z2k]
  split
  ·rfl
  ·exact y5m k r (i+1)
theorem w7l {k:κ}:∀ {m:List (κ×ν)} {i j:Nat} {v:ν},w2m m k i=some (j,v)→i≤j∧j<i+m.length
 |(a,w)::r,i,j,v,h=>by
  simp only [w2m] at h
  split at h
  ·cases h; simp
  ·have:=w7l h; simp only [eCa]; omega
theorem w0k {k:κ}:∀ {m:List (κ×ν)} {i j:Nat} {v:ν},w2m m k i=some (j,v)→∀ w,m.set (j - i) (k,w)=v8t m k w
 |(a,u)::r,i,j,v,h,w=>by
  simp only [w2m] at h
  simp only [v8t]
  split at h
  ·rename_i e; cases h; rw [if_pos e,Nat.sub_self]; rfl
  ·rename_i e
   have:=w7l h
   rw [if_neg e, ←w0k h w]
   have:j - i=(j - (i+1))+1:=by omega
   rw [this]; rfl
theorem w0i (k:κ) (v:ν) (a:κ):∀ m:List (κ×ν),z2k (v8t m k v) a=if a=k then (z2k m k).map fun _=>v else z2k m a
 |[]=>by simp [v8t,z2k]
 |(x,w)::r=>by
  have c:=w0i k v a r
  simp only [v8t]
  by_cases h:k=x
  ·rw [if_pos h]; subst h
   by_cases h':a=k
   ·simp [z2k,h']
   ·simp [z2k,h']
  ·rw [if_neg h]
   simp only [z2k]
   rw [c]
   by_cases h':a=x
   ·subst h'
    rw [if_pos rfl,if_neg (fun e=>h e.symm)]
    simp
   ·rw [if_neg h']
    by_cases b:a=k
    ·subst b; rw [if_pos rfl,if_pos rfl,if_neg h]
    ·rw [if_neg b,if_neg b,if_neg h']
theorem y7s (a:κ) (l:List (κ×ν)):∀ m:List (κ×ν),z2k (m++l) a=(z2k m a).or (z2k l a)
 |[]=>by simp [z2k]
 |(x,w)::r=>by
  simp only [eGr,z2k,y7s a l r]
  split<;>rfl
theorem y3b (m:List (κ×ν)) (k:κ) (v:ν) (a:κ):z2k (x5r m k v) a=if a=k then some v else z2k m a:=by
 unfold x5r
 cases h:z2k m k with
 |some w=>simp only [w0i,h,eBo]
 |none=>
  simp only [y7s,z2k]
  by_cases e:a=k
  ·subst e; simp [h]
  ·simp [e]
theorem x5m {k:κ}:∀ {m:List (κ×ν)},z2k m k=none↔k∉m.map (·.1)
 |[]=>by simp [z2k]
 |(x,w)::r=>by
  simp only [z2k,eFs,eBa,not_or]
  split
  ·rename_i h; simp [h]
  ·rename_i h; simp only [x5m (m:=r)]; simp [h]
end
structure w8e (κ ν:Type) where
 ke:κ→D
 ve:ν→D
 ks:List SK
 ka:Bool
 va:Bool
 ck:List CK
structure w8e.Ok {κ ν:Type} [DecidableEq κ] (E:w8e κ ν):Prop where
 agg:∀ k,z1w (E.ke k)=E.ka
 kinds:∀ k,z1k E.ks (z0x (E.ke k))=true
 eq:∀ a b,z9m E.ks (z0x (E.ke a)) (z0x (E.ke b))=some (decide (a=b))
 vagg:∀ v,z1w (E.ve v)=E.va
 vok:∀ v,z2v E.ck (z0x (E.ve v))=true
def w8e.enc {κ ν:Type} (E:w8e κ ν) (m:List (κ×ν)):List (D×D):=m.map fun e=>(E.ke e.1,E.ve e.2)
section
variable {κ ν:Type} [DecidableEq κ] {E:w8e κ ν} (h:E.Ok)
include h
theorem y7d (k:κ):∀ (m:List (κ×ν)) (i:Nat),y7e E.ks E.ka (E.ke k) (E.enc m) i=some ((w2m m k i).map fun x=>(x.1,E.ve x.2))
 |[],i=>rfl
 |(b,v)::r,i=>by
  have a:=y7d k r (i+1)
  unfold w8e.enc at a⊢
  simp only [eFs,y7e,h.agg,beq_self_eq_true,eCc,cond_true,h.eq,w2m]
  by_cases e:k=b
  ·simp [e]
  ·simp [e,a]
theorem w4q (m:List (κ×ν)) (k:κ):std.mOk (E.enc m) E.ks E.ka (E.ke k) E.va E.ck=true:=by
 show ((z1w (E.ke k)==E.ka)&&z1k E.ks (z0x (E.ke k))&&match y7e E.ks E.ka (E.ke k) (E.enc m) 0 with|some none=>true|some (some (_,v))=>(z1w v==E.va)&&z2v E.ck (z0x v)|none=>false)=true
 rw [y7d h,h.agg,h.kinds]
 cases w2m m k 0 with
 |none=>simp
 |some x=>simp [h.vagg,h.vok]
theorem x1q (m:List (κ×ν)) (k:κ):w4o (E.enc m) E.ks E.ka (E.ke k)=(w2m m k 0).map fun x=>(x.1,E.ve x.2):=by
 unfold w4o; rw [y7d h]; rfl
theorem x8x (m:List (κ×ν)) (k:κ):std.mhas (E.enc m) E.ks E.ka (E.ke k)=(z2k m k).isSome:=by
 show (w4o _ _ _ _).isSome=_
 rw [x1q h, ←y5m k m 0]; simp
theorem x35 (m:List (κ×ν)) (k:κ) (j:Nat) {v:ν} (a:z2k m k=some v):y41 (E.enc m) E.ks E.ka (E.ke k) j=((z0x (E.ve v))[j]?).getD .nilp:=by
 unfold y41
 rw [x1q h]
 rw [←y5m k m 0] at a
 cases b:w2m m k 0 with
 |none=>rw [b] at a; cases a
 |some x=>rw [b] at a; cases a; rfl
theorem x80 (m:List (κ×ν)) (k:κ) (j:Nat) {v:ν} (a:z2k m k=some v):std.mI (E.enc m) E.ks E.ka (E.ke k) j=dI (((z0x (E.ve v))[j]?).getD .nilp):=by
 show dI (y41 _ _ _ _ _)=_
 rw [x35 h m k j a]
theorem w9i (m:List (κ×ν)) (k:κ) {v:ν} (a:z2k m k=some v) (w:ν):std.mset (E.enc m) (std.nat (std.ofNat (std.mpos (E.enc m) E.ks E.ka (E.ke k)))) (E.ke k) (E.ve w)=E.enc (x5r m k w):=by
 show (E.enc m).set (Int.toNat ((((w4o (E.enc m) E.ks E.ka (E.ke k)).map (·.1)).getD 0:Nat):Int)) (E.ke k,E.ve w)=_
 rw [x1q h]
 have b:=a
 rw [←y5m k m 0] at a
 cases c:w2m m k 0 with
 |none=>rw [c] at a; cases a
 |some x=>
  obtain ⟨j,u⟩:=x
  simp only [eBo,eCd,eFf,x5r,b,w8e.enc]
  rw [←w0k c w,eGs,List.map_set]
theorem x8z (m:List (κ×ν)) (k:κ) (a:z2k m k=none) (w:ν):std.madd (E.enc m) (E.ke k) (E.ve w)=E.enc (x5r m k w):=by
 show E.enc m++[(E.ke k,E.ve w)]=_
 simp [x5r,a,w8e.enc]
end
end Go.Am
end
section
namespace Go.Am
open D12
variable {fl fl':List Int→Bool}
theorem y3e (s:Sg) (i:Nat) (h:i<128):G74 std ((s.a:Int),((s.b:Int),((i:Int),())))=some (s.has i,()):=by
 have q:=u1q h
 have r:=u1p h
 unfold G74 Sg.has
 by_cases e:i<64
 ·rw [if_pos e] at q r⊢
  have c:=v9u s.ha e
  rw [x59] at c
  have d:(0:Int)≤((i:Nat):Int):=by omega
  simp [z0j,z0k,z0o,eAa,eAb,eAc,q,r,c,d]
 ·rw [if_neg e] at q r⊢
  have c:=v9u s.hb (show i - 64<64 by omega)
  rw [x59] at c
  have d:(0:Int)≤((i - 64:Nat):Int):=by omega
  simp [z0j,z0k,z0o,eAa,eAb,eAc,q,r,c,d]
theorem w7s (s:Sg) (i:Nat) (h:i<128):G72 std ((s.a:Int),((s.b:Int),((i:Int),())))=some (((s.wth i).a:Int),(((s.wth i).b:Int),())):=by
 have q:=u1q h
 have r:=u1p h
 unfold G72 Sg.wth
 by_cases c:i<64
 ·rw [if_pos c] at q r
  rw [dif_pos c]
  have j:=u7k s.ha (eGo (by omega) c:2 ^ i<2 ^ 64)
  have g:=v9t c
  have f:(0:Int)≤((i:Nat):Int):=by omega
  have e:(0:Int)<((2:Nat):Int):=by omega
  have d:(1:Int)<((2:Nat):Int):=by omega
  simp only [z0j,z0k,z0o,eAa,eAb,eAc,q,r,g,j,f,e,d]
 ·rw [if_neg c] at q r
  rw [dif_neg c,dif_pos h]
  have k:i - 64<64:=by omega
  have j:=u7k s.hb (eGo (by omega) k:2 ^ (i - 64)<2 ^ 64)
  have g:=v9t k
  have f:(0:Int)≤((i - 64:Nat):Int):=by omega
  have e:(0:Int)<((2:Nat):Int):=by omega
  have d:(1:Int)<((2:Nat):Int):=by omega
  simp only [z0j,z0k,z0o,eAa,eAb,eAc,q,r,g,j,f,e,d]
theorem t3u (a b c d e f:Int):v1t std (a,(b,(c,(d,(e,(f,((0:Int),())))))))=some (.inl (std.ar .or .u64 a c,(b,(c,(d,(e,(f,((1:Int),())))))))):=rfl
theorem t3t (a b c d e f:Int):v1t std (a,(b,(c,(d,(e,(f,((1:Int),())))))))=some (.inl (a,(std.ar .or .u64 b d,(c,(d,(e,(f,((2:Int),())))))))):=rfl
theorem t3s (a b c d e f:Int):v1t std (a,(b,(c,(d,(e,(f,((2:Int),())))))))=some (.inr (a,(b,(e,(f,()))))):=rfl
theorem u6k (s t:Sg):G73 std ((s.a:Int),((s.b:Int),((t.a:Int),((t.b:Int),()))))=some (((s.or t).a:Int),(((s.or t).b:Int),())):=by
 unfold G73
 rw [z17,t3u]
 simp only []
 rw [z17,t3t]
 simp only []
 rw [z17,t3s,u7k s.ha t.ha,u7k s.hb t.hb]
 rfl
theorem u5r (a b c d e f:Int):w0d std (a,(b,(c,(d,(e,(f,((0:Int),())))))))=some (.inl (std.ar .and .u64 a c,(b,(c,(d,(e,(f,((1:Int),())))))))):=rfl
theorem u5q (a b c d e f:Int):w0d std (a,(b,(c,(d,(e,(f,((1:Int),())))))))=some (.inl (a,(std.ar .and .u64 b d,(c,(d,(e,(f,((2:Int),())))))))):=rfl
theorem u5p (a b c d e f:Int):w0d std (a,(b,(c,(d,(e,(f,((2:Int),())))))))=some (.inr (a,(b,(e,(f,()))))):=rfl
theorem w7w (s t:Sg):v8y std ((s.a:Int),((s.b:Int),((t.a:Int),((t.b:Int),()))))=some (((s.and t).a:Int),(((s.and t).b:Int),())):=by
 unfold v8y
 rw [z17,u5r]
 simp only []
 rw [z17,u5q]
 simp only []
 rw [z17,u5p,v45 s.ha t.ha,v45 s.hb t.hb]
 rfl
theorem v84 (l:List Int) (e:1≤l.length) (d:l.length≤1000000):u7a std (z0i l,())=some (z0i l,()):=by
 unfold u7a
 have a:(z0i l).length=l.length:=z0w l
 have c:¬ l.length≤0:=by omega
 have b:(z0i l).take l.length=z0i l:=by rw [←a,eDf]
 simp only [z0j,z0k,z0o,eAa,eAb,eAc,a,e,d,c,List.take_nil,List.drop_nil,List.nil_append,eCo,eAy,eAp,eBk,b]
theorem u6j (c:Cd) (d:1≤c.t.length) (b:c.t.length≤1000000):G75 std (c.n,(c.k,(z0i c.t,(c.a,()))))=some (c.n,(c.k,(z0i c.t,(c.a,())))):=by
 unfold G75
 have:=v84 c.t d b
 simp only [z0j,z0k,this]
def eS (s:Sg):List D:=[.int .u64 (s.a:Int), .int .u64 (s.b:Int)]
def z1x (l:List Sg):List (List D):=l.map eS
theorem x16 (l:List Sg):(z1x l).length=l.length:=by simp [z1x]
theorem z1u (s:Sg):z2v [CK.int IntKind.u64,CK.int IntKind.u64] (eS s)=true:=rfl
theorem z4o (s:Sg):dI ((eS s)[0]?.getD D.nilp)=(s.a:Int):=rfl
theorem z4n (s:Sg):dI ((eS s)[1]?.getD D.nilp)=(s.b:Int):=rfl
theorem x9n (l:List Sg) (i:Nat) (s:Sg):(z1x l).set i (eS s)=z1x (l.set i s):=by simp [z1x,List.map_set]
def EX:w8e Int Nat:=⟨fun k=> .int .i64 k,fun v=> .int .i64 (v:Int),[.i],false,false,[.int .i64]⟩
theorem w72:EX.Ok where
 agg _:=rfl
 kinds _:=rfl
 eq:=fun a b=>by
  show (bif IntKind.i64==IntKind.i64 then (some (z3z .eql a b&&true)) else none)=_
  rw [eDm]; rfl
 vagg _:=rfl
 vok _:=rfl
def z6u (m:List (Int×Nat)):List (D×D):=EX.enc m
section
variable (m:List (Int×Nat)) (x:Int)
theorem w8d:std.mOk (z6u m) [SK.i] false (.int .i64 x) false [.int .i64]=true:=w4q w72 m x
theorem y8r:std.mhas (z6u m) [SK.i] false (.int .i64 x)=(z2k m x).isSome:=x8x w72 m x
variable {m x}
theorem v2k {v:Nat} (h:z2k m x=some v):std.mI (z6u m) [SK.i] false (.int .i64 x) 0=(v:Int):=x80 w72 m x 0 h
theorem t4i {v:Nat} (h:z2k m x=some v) (w:Nat):std.mset (z6u m) (std.mpos (z6u m) [SK.i] false (.int .i64 x)) (.int .i64 x) (.int .i64 (w:Int))=z6u (x5r m x w):=w9i w72 m x h w
theorem v8u (h:z2k m x=none) (w:Nat):std.madd (z6u m) (.int .i64 x) (.int .i64 (w:Int))=z6u (x5r m x w):=x8z w72 m x h w
end
end Go.Am
end
section
namespace Go.Am
theorem z8v {S R τ α:Type} {b:S→Option (S⊕R)} (l:List α) (e:τ→Nat→S) (f:τ→α→τ) (I:τ→Nat→Prop) (r:τ→R)
  (step:∀ t i x,l[i]?=some x→I t i→b (e t i)=some (.inl (e (f t x) (i+1)))∧I (f t x) (i+1))
  (stop:∀ t,I t l.length→b (e t l.length)=some (.inr (r t))) (t:τ) (h:I t 0):z1a b (e t 0)=some (r (l.foldl f t))∧I (l.foldl f t) l.length:=by
 have key:∀ (q:List α) (i:Nat) (t:τ),l.drop i=q→i≤l.length→I t i→z1a b (e t i)=some (r (q.foldl f t))∧I (q.foldl f t) l.length:=by
  intro q
  induction q with
  |nil=>
   intro i t a m c
   have:i=l.length:=by have:=List.drop_eq_nil_iff.1 a; omega
   subst this
   rw [z17,stop t c]
   exact ⟨rfl,c⟩
  |cons x q k=>
   intro i t a m c
   have j:l[i]?=some x:=by rw [←List.head?_drop,a]; rfl
   have g:i<l.length:=(eAe.1 j).1
   obtain ⟨o,n⟩:=step t i x j c
   have d:l.drop (i+1)=q:=by rw [←eGf,a]; rfl
   rw [z17,o]
   exact k (i+1) (f t x) d g n
 exact key l 0 t rfl (eBb _) h
namespace D12
def y8q (g:List Cd) (c:Cd):List Cd:=if (g.any fun d=>decide (d.n=c.n))=true then g else g++[c]
def z5m (dks:List (List Cd)):List Cd:=dks.foldl (fun g l=>l.foldl y8q g) []
def ixM (g:List Cd):List (Int×Nat):=(g.map (·.n)).zipIdx
def gi (g:List Cd) (c:Cd):Nat:=(g.map (·.n)).idxOf c.n
theorem x2l (x:Int):∀ (l:List Int) (k:Nat),z2k (l.zipIdx k) x=if x∈l then some (k+l.idxOf x) else none
 |[],k=>by simp [z2k]
 |y::l,k=>by
  rw [List.zipIdx_cons]
  simp only [z2k,x2l x l (k+1),eBa,List.idxOf_cons]
  by_cases h:x=y
  ·subst h; simp
  ·have h':(y==x)=false:=by simpa using fun e=>h e.symm
   simp only [h,if_false,false_or,h',cond_false]
   split
   ·simp; omega
   ·rfl
theorem v3c (g:List Cd) (x:Int):z2k (ixM g) x=if x∈g.map (·.n) then some ((g.map (·.n)).idxOf x) else none:=by
 unfold ixM; rw [x2l]; simp
theorem w41 {g:List Cd} {c:Cd} (h:c∈g):z2k (ixM g) c.n=some (gi g c):=by
 rw [v3c,if_pos (eGt h)]; rfl
theorem u1j (g:List Cd) (x:Int):(z2k (ixM g) x).isSome=g.any fun d=>decide (d.n=x):=by
 rw [v3c,eBu]
 by_cases h:x∈g.map (·.n)
 ·rw [if_pos h]
  obtain ⟨d,b,a⟩:=eBq.1 h
  simp only [Option.isSome_some,eBd,true_iff,decide_eq_true_eq]
  exact ⟨d,b,a⟩
 ·rw [if_neg h]
  simp only [Option.isSome_none,eBd,decide_eq_true_eq,eAh,false_iff]
  rintro ⟨d,b,a⟩
  exact h (eBq.2 ⟨d,b,a⟩)
theorem u1k {g:List Cd} {c:Cd} (h:z2k (ixM g) c.n=none):x5r (ixM g) c.n g.length=ixM (g++[c]):=by
 unfold x5r; rw [h]
 unfold ixM
 rw [List.map_append,List.zipIdx_append]
 simp
theorem x65 {g:List Cd} {c:Cd} (h:c∈g):gi g c<g.length:=by
 have:=eDc (eGt (f:=fun c:Cd=>c.n) h)
 rwa [eBp] at this
theorem y2y {g:List Cd} {c:Cd} (b:Inj g) (h:c∈g):g[gi g c]?=some c:=by
 have a:=x65 h
 rw [eAd a]
 congr 1
 refine b _ (eDe a) _ h ?_
 have e:=eGk (eDc (eGt (f:=fun c:Cd=>c.n) h))
 rw [List.getElem_map] at e
 exact e
theorem z74 {g:List Cd} {c:Cd} {i:Nat} (a:(g.map (·.n)).Nodup) (h:g[i]?=some c):gi g c=i:=by
 obtain ⟨j,f⟩:=eAe.1 h
 have b:=z2f a
 have hm:c∈g:=eAn h
 have:=y2y b hm
 obtain ⟨e,d⟩:=eAe.1 this
 have:=(List.getElem_inj (z3k a) (h₀:=e) (h₁:=j)).1 (d.trans f.symm)
 exact this
def Rp (a:List Sg) (g:List Cd) (B:Cd→Cd→Bool):Prop:=
 a.length=g.length∧∀ i c,g[i]?=some c→∀ k,(a.getD i Sg.none).has k=match g[k]? with|some d=>B d c|none=>false
theorem v5j (g:List Cd):Rp (eAu g.length Sg.none) g fun _ _=>false:=by
 refine ⟨by simp,fun i c a k=>?_⟩
 have:(eAu g.length Sg.none).getD i Sg.none=Sg.none:=by
  rw [eAr,eCs]; split<;>rfl
 rw [this,Sg.has_none]
 split<;>rfl
theorem Rp.congr {a:List Sg} {g:List Cd} {B C:Cd→Cd→Bool} (h:Rp a g B) (f:∀ d∈g,∀ c∈g,B d c=C d c):Rp a g C:=by
 refine ⟨h.1,fun i c b k=>?_⟩
 rw [h.2 i c b k]
 cases e:g[k]? with
 |none=>rfl
 |some d=>exact f d (eAn e) c (eAn b)
def z12 (i:Nat) (s:List (Int×Nat)×List Sg) (x:Int):List (Int×Nat)×List Sg:=
 (x5r s.1 x i,match z2k s.1 x with|some k=>s.2.set i ((s.2.getD i Sg.none).wth k)|none=>s.2)
theorem x4h {α:Type} {l:List α} {i j:Nat} {a d:α} (h:j≠i):(l.set i a).getD j d=l.getD j d:=by
 rw [eAr,eAr,eFa (fun e=>h e.symm)]
theorem x4i {α:Type} {l:List α} {i:Nat} {a d:α} (h:i<l.length):(l.set i a).getD i d=a:=by
 rw [eAr,List.getElem?_set_self h]; rfl
theorem w3d (i:Nat):∀ (t:List Int) (L:List (Int×Nat)) (a:List Sg),t.Nodup→i<a.length→(∀ x k,z2k L x=some k→k<128)→i<128→
  (∀ x,z2k (t.foldl (z12 i) (L,a)).1 x=if x∈t then some i else z2k L x)∧(t.foldl (z12 i) (L,a)).2.length=a.length∧
  (∀ j,j≠i→(t.foldl (z12 i) (L,a)).2.getD j Sg.none=a.getD j Sg.none)∧
  ∀ k,((t.foldl (z12 i) (L,a)).2.getD i Sg.none).has k=((a.getD i Sg.none).has k||t.any fun x=>decide (z2k L x=some k))
 |[],L,a,_,_,_,_=>⟨fun x=>by simp,rfl,fun _ _=>rfl,fun k=>by simp⟩
 |x::t,L,a,r,n,o,c=>by
  simp only [eDo]
  have d:=eGm.1 r
  have g:(z12 i (L,a) x).2.length=a.length:=by
   unfold z12; simp only; cases z2k L x<;>simp
  have p:=w3d i t (z12 i (L,a) x).1 (z12 i (L,a) x).2 d.2 (by rw [g]; exact n) (by
   intro y k b
   unfold z12 at b
   simp only [y3b] at b
   split at b
   ·cases b; exact c
   ·exact o y k b) c
  obtain ⟨w,v,u,s⟩:=p
  refine ⟨fun y=>?_,v.trans g,fun j l=>?_,fun k=>?_⟩
  ·rw [w y]
   simp only [z12,y3b,eBa]
   by_cases b:y∈t
   ·simp [b]
   ·by_cases f:y=x
    ·simp [f]
    ·simp [b,f]
  ·rw [u j l]
   simp only [z12]
   cases z2k L x with
   |none=>rfl
   |some k=>exact x4h l
  ·rw [s k]
   have A:((z12 i (L,a) x).2.getD i Sg.none).has k=((a.getD i Sg.none).has k||decide (z2k L x=some k)):=by
    simp only [z12]
    cases q:z2k L x with
    |none=>simp
    |some m=>
     simp only
     rw [x4i n,Sg.has_wth _ (o x m q)]
     congr 1
     exact decide_eq_decide.2 ⟨fun h=>by rw [h],fun h=>by cases h; rfl⟩
   have z:(t.any fun y=>decide (z2k (z12 i (L,a) x).1 y=some k))=t.any fun y=>decide (z2k L y=some k):=by
    have:∀ y∈t,decide (z2k (z12 i (L,a) x).1 y=some k)=decide (z2k L y=some k):=by
     intro y b
     simp only [z12,y3b]
     have:y≠x:=fun e=>d.1 (e▸b)
     simp [this]
    rw [eBu,eBd,eBd]
    constructor
    ·rintro ⟨y,b,h⟩; exact ⟨y,b,by rw [←this y b]; exact h⟩
    ·rintro ⟨y,b,h⟩; exact ⟨y,b,by rw [this y b]; exact h⟩
   rw [A,z,List.any_cons,Bool.or_assoc]
def y96 (g:List Cd) (s:List (Int×Nat)×List Sg) (c:Cd):List (Int×Nat)×List Sg:=c.t.foldl (z12 (gi g c)) s
structure v2r (g:List Cd) (B0:Cd→Cd→Bool) (p:List Cd) (s:List (Int×Nat)×List Sg):Prop where
 last:∀ x,z2k s.1 x=(on x p).getLast?.map (gi g)
 rel:Rp s.2 g fun d c=>B0 d c||ltc p d c
theorem x8f {p:List Cd} {c e:Cd} (h:e∈p):pre (p++[c]) e=pre p e:=by
 unfold pre
 have a:=eDc h
 rw [List.idxOf_append,if_pos h,List.take_append_of_le_length (by omega)]
theorem v8e {g:List Cd} {B0:Cd→Cd→Bool} (hg:(g.map (·.n)).Nodup) (M:g.length≤128) {p:List Cd} {c:Cd} (u:∀ d∈p,d∈g) (E:c∈g) (o:c∉p) (F:c.t.Nodup)
  {s:List (Int×Nat)×List Sg} (h:v2r g B0 p s):v2r g B0 (p++[c]) (y96 g s c):=by
 have A:=z2f hg
 have B:=x65 E
 obtain ⟨K,J,I,H⟩:=w3d (gi g c) c.t s.1 s.2 F (by rw [h.rel.1]; exact B) (by
  intro x k b
  rw [h.last x] at b
  cases f:(on x p).getLast? with
  |none=>rw [f] at b; cases b
  |some d=>
   rw [f] at b
   cases b
   have:=x65 (u d (w4b (eGp f)))
   omega) (by omega)
 refine ⟨fun x=>?_,?_,?_⟩
 ·show z2k (c.t.foldl (z12 (gi g c)) s).1 x=_
  rw [K x,w4c,h.last x]
  by_cases b:x∈c.t
  ·rw [if_pos b]
   have:on x [c]=[c]:=by rw [v5r b]; rfl
   rw [this]; simp
  ·rw [if_neg b]
   have:on x [c]=[]:=by simp [on,b]
   rw [this]; simp
 ·show (c.t.foldl (z12 (gi g c)) s).2.length=_
  rw [J,h.rel.1]
 ·intro i e he k
  show ((c.t.foldl (z12 (gi g c)) s).2.getD i Sg.none).has k=_
  have y:=z74 hg he
  have G:e∈g:=eAn he
  by_cases j:e=c
  ·subst j
   have q:=H k
   rw [y] at q⊢
   refine q.trans ?_
   rw [h.rel.2 i e he k]
   cases l:g[k]? with
   |none=>
    simp only [Bool.false_or]
    rw [eFg]
    intro x b
    simp only [decide_eq_true_eq]
    intro a
    have a:z2k s.1 x=some k:=a
    rw [h.last x] at a
    cases f:(on x p).getLast? with
    |none=>rw [f] at a; cases a
    |some d=>
     rw [f] at a
     cases a
     rw [y2y A (u d (w4b (eGp f)))] at l
     cases l
   |some d=>
    simp only
    rw [Bool.or_assoc]
    congr 1
    have w:ltc p d e=false:=by
     cases f:ltc p d e with
     |false=>rfl
     |true=>exact absurd (z9e.1 f).1 o
    rw [w,Bool.false_or,eBu,eBd,z9e,w3z (p:=p) (r:=[]) rfl o]
    constructor
    ·rintro ⟨x,b,a⟩
     have a:z2k s.1 x=some k:=by simpa using a
     rw [h.last x] at a
     refine ⟨by simp,x,b,?_⟩
     cases f:(on x p).getLast? with
     |none=>rw [f] at a; cases a
     |some L=>
      rw [f] at a
      cases a
      rw [y2y A (u L (w4b (eGp f)))] at l
      exact l
    ·rintro ⟨_,x,b,a⟩
     refine ⟨x,b,?_⟩
     have:z2k s.1 x=some k:=by
      rw [h.last x,a]
      exact congrArg some (z74 hg l)
     simpa using this
  ·have v:i≠gi g c:=by
    rintro rfl
    rw [y2y A E] at he
    exact j (Option.some.inj he).symm
   have C:=congrArg (fun z=>z.has k) (I i v)
   refine C.trans ?_
   simp only []
   rw [h.rel.2 i e he k]
   cases l:g[k]? with
   |none=>rfl
   |some d=>
    simp only
    congr 1
    rw [eBu,z9e,z9e]
    constructor
    ·rintro ⟨hm,x,b,a⟩
     exact ⟨eDp _ hm,x,b,by rw [x8f hm]; exact a⟩
    ·rintro ⟨hm,x,b,a⟩
     have m:e∈p:=by
      rcases eBx.1 hm with h|h
      ·exact h
      ·exact absurd (eBn.1 h) j
     exact ⟨m,x,b,by rw [x8f m] at a; exact a⟩
theorem w6l {g:List Cd} {B0:Cd→Cd→Bool} (hg:(g.map (·.n)).Nodup) (i:g.length≤128):∀ (q p:List Cd) (s:List (Int×Nat)×List Sg),(∀ d∈p++q,d∈g)→(p++q).Nodup→(∀ c∈q,c.t.Nodup)→v2r g B0 p s→v2r g B0 (p++q) (q.foldl (y96 g) s)
 |[],p,s,_,_,_,h=>by simpa using h
 |c::q,p,s,hm,f,b,h=>by
  have j:=v8e hg i (fun d a=>hm d (eDp _ a)) (hm c (by simp)) (fun k=>(List.nodup_append.1 f).2.2 c k c (eBv ..) rfl) (b c (eBv ..)) h
  have e:p++c::q=(p++[c])++q:=by simp
  rw [e]
  exact w6l hg i q (p++[c]) _ (by rw [←e]; exact hm) (by rw [←e]; exact f) (fun d a=>b d (eCq _ a)) j
def y7l (g:List Cd) (a:List Sg) (l:List Cd):List Sg:=(l.foldl (y96 g) ([],a)).2
def u8p (g:List Cd) (dks:List (List Cd)):List Sg:=dks.foldl (y7l g) (eAu g.length Sg.none)
theorem w55 {g:List Cd} (hg:(g.map (·.n)).Nodup) (b:g.length≤128):∀ (dks:List (List Cd)) (B0:Cd→Cd→Bool) (a:List Sg),(∀ l∈dks,(∀ d∈l,d∈g)∧l.Nodup∧∀ c∈l,c.t.Nodup)→Rp a g B0→
  Rp (dks.foldl (y7l g) a) g fun d c=>B0 d c||dks.any fun l=>ltc l d c
 |[],B0,a,_,h=>h.congr fun _ _ _ _=>by simp
 |l::dks,B0,a,e,h=>by
  obtain ⟨m,k,j⟩:=e l (eBv ..)
  have i:=w6l (B0:=B0) hg b l [] ([],a) (by simpa using m) (by simpa using k) j ⟨fun x=>by simp [z2k,on],h.congr fun d _ c _=>by
   have:ltc [] d c=false:=by
    cases f:ltc [] d c with
    |false=>rfl
    |true=>exact absurd (z9e.1 f).1 (by simp)
   rw [this,eGd]⟩
  have:=w55 hg b dks _ _ (fun l b=>e l (eCq _ b)) i.rel
  refine (show Rp ((l::dks).foldl (y7l g) a) g _ from this).congr fun d _ c _=>?_
  simp only [List.nil_append,List.any_cons,Bool.or_assoc]
theorem v5i {g:List Cd} (hg:(g.map (·.n)).Nodup) (a:g.length≤128) {dks:List (List Cd)} (b:∀ l∈dks,(∀ d∈l,d∈g)∧l.Nodup∧∀ c∈l,c.t.Nodup):Rp (u8p g dks) g fun d c=>dks.any fun l=>ltc l d c:=
 (w55 hg a dks _ _ b (v5j g)).congr fun _ _ _ _=>by simp
end D12
end Go.Am
end
section
namespace Go.Am
open D12
variable {fl fl':List Int→Bool}
theorem w53 {α β:Type} [DecidableEq β] (l:List α) (d:α) (f:α→β):((eAv l.length).any fun i=>(eAv i).any fun j=>decide (f (l.getD i d)=f (l.getD j d)))=!decide (l.map f).Nodup:=by
 rw [eBu,eBd]
 simp only [eBd,eBj,decide_eq_true_eq,eCy,decide_eq_false_iff_not]
 constructor
 ·rintro ⟨i,b,j,k,he⟩ e
  have a:j<l.length:=by omega
  rw [z0p (eAd b),z0p (eAd a)] at he
  have:=(List.getElem_inj (xs:=l.map f) (i:=i) (j:=j) (h₀:=by simpa using b) (h₁:=by simpa using a) e).1 (by simpa using he)
  omega
 ·intro e
  refine eDq fun c=>e ?_
  rw [List.nodup_iff_pairwise_ne,eFi]
  intro i j b k g he
  have h:i<l.length:=by simpa using b
  have a:j<l.length:=by simpa using k
  exact c ⟨j,a,i,g,by
   rw [z0p (eAd h),z0p (eAd a)]
   simpa using he.symm⟩
theorem y4r (x:Int):G58 std (x,())=some (decide (z7h x),()):=by
 unfold G58 z7h
 by_cases a:1≤x
 ·simp only [z0j,z0k,z0o,eAa,eAb,eAc,a,true_and]
 ·simp only [z0j,z0k,z0o,eAa,eAb,eAc,a,false_and]
theorem x0o (k:Int):G59 std (k,())=some ((z30 k:Int),()):=by
 unfold G59 z30
 by_cases f:k=1
 ·simp [z0j,z0k,z0o,eAa,eAb,eAc,f]
 by_cases e:k=2
 ·simp [z0j,z0k,z0o,eAa,eAb,eAc,e]
 by_cases b:k=5
 ·simp [z0j,z0k,z0o,eAa,eAb,eAc,b]
 by_cases d:k=3
 ·simp [z0j,z0k,z0o,eAa,eAb,eAc,d]
 by_cases c:k=4
 ·simp [z0j,z0k,z0o,eAa,eAb,eAc,c]
 by_cases a:k=6
 ·simp [z0j,z0k,z0o,eAa,eAb,eAc,a]
 simp [z0j,z0k,z0o,eAa,eAb,eAc,f,e,d,c,b,a]
theorem v4s (k a:Int) (b:z30 k≠0):G60 std (k,(a,()))=some (decide (w8a k a),()):=by
 unfold G60 w8a
 rcases y6y b with ⟨b,_⟩|⟨b,_⟩|⟨b,_⟩
 ·rcases b with rfl|rfl|rfl
  ·by_cases h:1≤a<;>simp [z0j,z0k,z0o,eAa,eAb,eAc,h]
  ·by_cases h:1≤a<;>simp [z0j,z0k,z0o,eAa,eAb,eAc,h]
  ·simp [z0j,z0k,z0o,eAa,eAb,eAc]
 ·rcases b with rfl|rfl
  ·by_cases h:1≤a<;>simp [z0j,z0k,z0o,eAa,eAb,eAc,h]
  ·simp [z0j,z0k,z0o,eAa,eAb,eAc]
 ·subst b
  by_cases h:0≤a<;>simp [z0j,z0k,z0o,eAa,eAb,eAc,h]
theorem v2g (n k a:Int) (t:List Int) (i:Nat) (h:i<t.length) (q:t.length≤1000000):
  z1a (w66 std) (n,(k,(z0i t,(a,((i:Int),((0:Int),()))))))=some (if ((eAv i).any fun j=>decide (t.getD i 0=t.getD j 0))=true then .inl (16,()) else .inr (n,(k,(z0i t,(a,((i:Int),())))))):=
 z11 (b:=w66 std) i (fun j=>(n,(k,(z0i t,(a,((i:Int),((j:Int),()))))))) (fun j=>decide (t.getD i 0=t.getD j 0)) _ _ (fun j r=>by
  obtain ⟨m,hm⟩:=z0d h
  obtain ⟨p,c⟩:=z0d (l:=t) (i:=j) (by omega)
  obtain ⟨f,e⟩:=stp j (by omega)
  have o:(0:Int)≤i:=by omega
  have d:(j:Int)<i:=by omega
  simp only [z0p hm,z0p c,w66,z0j,z0k,z0a,z0i,z02,z3j,z0o,eAa,eAb,eAc,hm,c,d,o,e,f]) (by
  have g:¬ (i:Int)<i:=by omega
  simp only [w66,z0j,z0k,z0a,z0i,z02,z3j,g])
theorem v2h (n k a:Int) (t:List Int) (f:t.length≤1000000):
  z1a (w67 std) (n,(k,(z0i t,(a,((0:Int),())))))=some (if (!decide t.Nodup)=true then .inl (16,()) else .inr (n,(k,(z0i t,(a,()))))):=by
 have key:=z11 (b:=w67 std) t.length (fun i=>(n,(k,(z0i t,(a,((i:Int),())))))) (fun i=>(eAv i).any fun j=>decide (t.getD i 0=t.getD j 0)) (.inl (16,())) (.inr (n,(k,(z0i t,(a,()))))) (fun i h=>by
  obtain ⟨d,m⟩:=stp i (by omega)
  have c:(i:Int)<t.length:=by omega
  have l:=v2g n k a t i h f
  simp only [w67,z0j,z0k,z0o,eAa,eAb,eAc,z0w,c,m,d,l]
  cases (eAv i).any fun j=>decide (t.getD i 0=t.getD j 0)<;>simp [d]) (by
  have g:¬ (t.length:Int)<t.length:=by omega
  simp only [w67,z0j,z0k,z0w,g])
 have e:=w53 t 0 (fun x:Int=>x)
 rw [List.map_id'] at e
 rw [e] at key
 exact key
theorem v2i (n k a:Int) (t:List Int) (j:t.length≤1000000):
  z1a (w68 std) (n,(k,(z0i t,(a,((0:Int),())))))=some (if (t.any fun x=>!decide (z7h x))=true then .inl (3,()) else .inr (n,(k,(z0i t,(a,()))))):=by
 have key:=z11 (b:=w68 std) t.length (fun i=>(n,(k,(z0i t,(a,((i:Int),())))))) (fun i=>!decide (z7h (t.getD i 0))) (.inl (3,())) (.inr (n,(k,(z0i t,(a,()))))) (fun i g=>by
  obtain ⟨m,hm⟩:=z0d g
  obtain ⟨d,h⟩:=stp i (by omega)
  have c:(i:Int)<t.length:=by omega
  simp only [z0p hm,w68,z0j,z0k,z0a,z0i,z02,z3j,z0o,eAa,eAb,eAc,hm,c,h,d,y4r]
  by_cases e:z7h m<;>simp [e]) (by
  have f:¬ (t.length:Int)<t.length:=by omega
  simp only [w68,z0j,z0k,z0a,z0i,z02,z3j,f])
 rw [z6l t 0 fun x=>!decide (z7h x)] at key
 exact key
theorem u6w (c:Cd) (m:c.t.length≤1000000):G18 std (c.n,(c.k,(z0i c.t,(c.a,()))))=some (z3n c,()):=by
 unfold G18 z3n
 have e:=v2i c.n c.k c.a c.t m
 have i:=v2h c.n c.k c.a c.t m
 have p:(c.t.any fun x=>!decide (z7h x))=decide (∃ x∈c.t,¬ z7h x):=by
  rw [eBu]; simp
 rw [p] at e
 by_cases f:z7h c.n
 ·by_cases d:z30 c.k=0
  ·simp only [z0j,z0k,z0o,eAa,eAb,eAc,y4r,x0o,f,d]
   simp
  ·have b:¬ ((z30 c.k:Nat):Int)=0:=by omega
   by_cases h:c.t.length=z30 c.k
   ·have l:((c.t.length:Nat):Int)=(z30 c.k:Nat):=by omega
    by_cases g:∃ x∈c.t,¬ z7h x
    ·simp only [g,decide_true,if_true] at e
     simp only [z0j,z0k,z0o,eAa,eAb,eAc,y4r,x0o,z0w,f,d,b,h,e,g]
     simp
    ·simp only [g,decide_false,eAh,if_false] at e
     by_cases j:c.t.Nodup
     ·simp only [j,decide_true,eCp,eAh,if_false] at i
      by_cases o:w8a c.k c.a
      ·simp only [z0j,z0k,z0o,eAa,eAb,eAc,y4r,x0o,v4s _ _ d,z0w,f,d,b,h,e,i,g,j,o]
       simp
      ·simp only [z0j,z0k,z0o,eAa,eAb,eAc,y4r,x0o,v4s _ _ d,z0w,f,d,b,h,e,i,g,j,o]
       simp
     ·simp only [j,decide_false,eCn,if_true] at i
      simp only [z0j,z0k,z0o,eAa,eAb,eAc,y4r,x0o,z0w,f,d,b,h,e,i,g,j]
      simp
   ·have l:¬ ((c.t.length:Nat):Int)=(z30 c.k:Nat):=by omega
    simp only [z0j,z0k,z0o,eAa,eAb,eAc,y4r,x0o,z0w,f,d,b,h,l]
    simp [h]
 ·simp only [z0j,z0k,z0o,eAa,eAb,eAc,y4r,f]
  simp
def Few (l:List Cd):Prop:=∀ c∈l,c.t.length≤1000000
theorem v2e (l:List Cd) (o:l.length≤1000000) (k:Few l):
  z1a (w2k std) (z0a fl l,((0:Int),()))=some (match l.find? fun c=>!decide (z3n c=0) with|some c=> .inl (z3n c,())|none=> .inr (z0a fl l,())):=by
 have key:=z3b (b:=w2k std) l.length (fun i=>(z0a fl l,((i:Int),()))) (fun i=>!decide (z3n (l.getD i default)=0)) (fun i=> .inl (z3n (l.getD i default),())) (.inr (z0a fl l,())) (fun i j=>by
  obtain ⟨m,hm⟩:=z0d j
  obtain ⟨f,n⟩:=stp i (by omega)
  have d:(i:Int)<l.length:=by omega
  have a:=u6w m (k m (eAn hm))
  simp only [z0i] at a
  simp only [z0p hm,w2k,z0j,z0k,z0a,z0i,z02,z3j,z0o,eAa,eAb,eAc,hm,d,n,f,a]) (by
  have g:¬ (l.length:Int)<l.length:=by omega
  simp only [w2k,z0j,z0k,z0a,z0i,z02,z3j,g])
 have key:z1a (w2k std) (z0a fl l,((0:Int),()))=_:=key
 rw [key]
 have e:=y5f l default fun c=>!decide (z3n c=0)
 cases h:(eAv l.length).find? fun i=>!decide (z3n (l.getD i default)=0) with
 |none=>rw [h] at e; simp only [Option.map_none] at e; rw [←e]
 |some i=>rw [h] at e; simp only [eBo] at e; rw [←e]
theorem v2c (l:List Cd) (i:Nat) (g:i<l.length) (o:l.length≤1000000):
  z1a (w64 std) (z0a fl l,((i:Int),((0:Int),())))=some (if ((eAv i).any fun j=>decide ((l.getD i default).n=(l.getD j default).n))=true then .inl (11,()) else .inr (z0a fl l,((i:Int),()))):=
 z11 (b:=w64 std) i (fun j=>(z0a fl l,((i:Int),((j:Int),())))) (fun j=>decide ((l.getD i default).n=(l.getD j default).n)) _ _ (fun j p=>by
  obtain ⟨m,hm⟩:=z0d g
  obtain ⟨k,a⟩:=z0d (l:=l) (i:=j) (by omega)
  obtain ⟨e,d⟩:=stp j (by omega)
  have h:(0:Int)≤i:=by omega
  have c:(j:Int)<i:=by omega
  simp only [z0p hm,z0p a,w64,z0j,z0k,z0a,z0i,z02,z3j,z0o,eAa,eAb,eAc,hm,a,c,h,d,e]) (by
  have f:¬ (i:Int)<i:=by omega
  simp only [w64,z0j,z0k,z0a,z0i,z02,z3j,f])
theorem v2d (l:List Cd) (e:l.length≤1000000):
  z1a (w65 std) (z0a fl l,((0:Int),()))=some (if (!decide (l.map (·.n)).Nodup)=true then .inl (11,()) else .inr ()):=by
 have key:=z11 (b:=w65 std) l.length (fun i=>(z0a fl l,((i:Int),()))) (fun i=>(eAv i).any fun j=>decide ((l.getD i default).n=(l.getD j default).n)) (.inl (11,())) (.inr ()) (fun i f=>by
  obtain ⟨c,h⟩:=stp i (by omega)
  have a:(i:Int)<l.length:=by omega
  have g:=v2c (fl:=fl) l i f e
  simp only [w65,z0j,z0k,z0o,eAa,eAb,eAc,z0r,a,h,c,g]
  cases (eAv i).any fun j=>decide ((l.getD i default).n=(l.getD j default).n)<;>simp [c]) (by
  have d:¬ (l.length:Int)<l.length:=by omega
  simp only [w65,z0j,z0k,z0r,d])
 rw [w53 l default (·.n)] at key
 exact key
theorem w0m (l:List Cd) (h:Few l):G20 std (z0a fl l,())=some (z13 l,()):=by
 unfold G20 z13
 by_cases f:60<l.length
 ·have a:(60:Int)<l.length:=by omega
  simp only [z0j,z0k,z0o,eAa,eAb,eAc,z0r,f,a]
 ·have a:¬ (60:Int)<l.length:=by omega
  have b:=v2e (fl:=fl) l (by omega) h
  have d:=v2d (fl:=fl) l (by omega)
  cases g:l.find? fun c=>!decide (z3n c=0) with
  |some c=>
   rw [g] at b
   simp only [z0j,z0k,z0o,eAa,eAb,eAc,z0r,f,a,b]
  |none=>
   rw [g] at b
   by_cases e:(l.map (·.n)).Nodup
   ·simp only [e,decide_true,eCp,eAh,if_false] at d
    simp only [z0j,z0k,z0o,eAa,eAb,eAc,z0r,f,a,b,d,e]
   ·simp only [e,decide_false,eCn,if_true] at d
    simp only [z0j,z0k,z0o,eAa,eAb,eAc,z0r,f,a,b,d,e]
theorem y4m {l:List Cd} (h:x4f l=false):Few l∧l.length≤70∧∀ c∈l,c.t.length≤10:=by
 unfold x4f at h
 simp only [Bool.or_eq_false_iff,decide_eq_false_iff_not,eFg,decide_eq_true_eq] at h
 exact ⟨fun c a=>by have:=h.2 c a; omega,by omega,fun c a=>by have:=h.2 c a; omega⟩
def y2h (a b:List Cd):Int:=if z13 a≠0 then z13 a else z13 b
theorem u6f (a b:List Cd) (d:Few a) (c:Few b):G82 std (z0a fl a,(z0a fl' b,()))=some (y2h a b,()):=by
 unfold G82 y2h
 by_cases h:z13 a=0
 ·simp only [z0j,z0k,z0o,eAa,eAb,eAc,w0m a d,w0m b c,h]; simp
 ·simp only [z0j,z0k,z0o,eAa,eAb,eAc,w0m a d,w0m b c,h]; simp [h]
theorem v1y (C r DK:List (List D)) (B:List (D×D)) (off len i n:Nat) (q kd nl u:Int) (t:List Int) (L:List (Int×Nat)) (e:List Sg) (Q:n≤128) (S:i<n) (w:e.length=n) (A:∀ x k,z2k L x=some k→k<128) (P:t.length≤1000000):
  z1a (w2f std) (z6u L,(C,(B,(z1x e,(off,(len,((i:Int),(DK,(q,(kd,(r,(nl,(u,(z0i t,((t.length:Int),((0:Int),()))))))))))))))))=
   some (z6u (t.foldl (z12 i) (L,e)).1,(C,(B,(z1x (t.foldl (z12 i) (L,e)).2,(off,(len,(DK,(q,(kd,(r,(nl,(u,())))))))))))):=by
 have key:=z8v (b:=w2f std) t (fun (s:List (Int×Nat)×List Sg) j=>(z6u s.1,(C,(B,(z1x s.2,(off,(len,((i:Int),(DK,(q,(kd,(r,(nl,(u,(z0i t,((t.length:Int),((j:Int),()))))))))))))))))) (z12 i)
  (fun s _=>s.2.length=n∧∀ x k,z2k s.1 x=some k→k<128) (fun s=>(z6u s.1,(C,(B,(z1x s.2,(off,(len,(DK,(q,(kd,(r,(nl,(u,())))))))))))))
  (fun s j x E O=>by
   obtain ⟨w,A⟩:=O
   have R:j<t.length:=(eAe.1 E).1
   obtain ⟨M,N⟩:=stp j (by omega)
   have h:(j:Int)<t.length:=by omega
   have l:(z1x s.2).length=n:=by rw [x16,w]
   have o:(i:Int)<(n:Int):=by omega
   have H:(0:Int)≤(i:Int):=by omega
   have f:((i:Int)).toNat=i:=by omega
   have p:s.2[i]?=some (s.2.getD i Sg.none):=by rw [eAr,eAd (by omega)]; rfl
   have m:(z12 i s x).2.length=n∧∀ y k,z2k (z12 i s x).1 y=some k→k<128:=by
    refine ⟨?_,fun y k v=>?_⟩
    ·unfold z12; simp only; cases z2k s.1 x<;>simp [w]
    ·simp only [z12,y3b] at v
     split at v
     ·cases v; omega
     ·exact A y k v
   refine ⟨?_,m⟩
   cases c:z2k s.1 x with
   |none=>
    have I:(z2k s.1 x).isSome=false:=by rw [c]; rfl
    have J:=v8u c i
    simp only [w2f,z0j,z0k,z0i,z1n,z6v,z0o,eAa,eAb,eAc,E,h,N,M,w8d,y8r,I,J,f,eAj,eBo,z12,c,Option.isSome_none,Option.isSome_some]
   |some k=>
    have I:(z2k s.1 x).isSome=true:=by rw [c]; rfl
    have J:=t4i c i
    have hg:=v2k c
    have K:=w7s (s.2.getD i Sg.none) k (A x k c)
    have d:=x9n s.2 i ((s.2.getD i Sg.none).wth k)
    have G:(z1x (s.2.set i ((s.2.getD i Sg.none).wth k))).length=(z1x s.2).length:=by simp [z1x]
    simp only [show ∀ z:Sg,eS z=[.int .u64 (z.a:Int), .int .u64 (z.b:Int)] from fun _=>rfl] at d
    have g:(z1x s.2)[i]?=some (eS (s.2.getD i Sg.none)):=by unfold z1x; rw [eAj,p]; rfl
    rw [←l] at o
    simp only [w2f,z0j,z0k,z0i,z1n,z6v,z0o,eAa,eAb,eAc,E,h,N,M,w8d,y8r,I,J,hg,f,g,z1u,z4o,z4n,K,o,H,eAj,eBo,z12,c,Option.isSome_none,Option.isSome_some,d,G])
  (fun s _=>by
   have F:¬ (t.length:Int)<t.length:=by omega
   simp only [w2f,z0j,z0k,F,if_false,z0o,eAa,eAb,eAc]) (L,e) ⟨w,A⟩
 exact key.1
theorem v1z (C DK:List (List D)) (off len:Nat) (a kd:Int) (g l:List Cd) (hg:(g.map (·.n)).Nodup) (v:g.length≤128) (hm:∀ c∈l,c∈g) (f:List Sg) (o:f.length=g.length) (K:l.length≤1000000) (M:Few l):
  z1a (w6x std) ([],(C,(z6u (ixM g),(z1x f,(off,(len,(DK,(a,(kd,(z0a fl l,((l.length:Int),((0:Int),()))))))))))))=
   some (C,(z6u (ixM g),(z1x (y7l g f l),(off,(len,(DK,(a,(kd,())))))))):=by
 have key:=z8v (b:=w6x std) l (fun (s:List (Int×Nat)×List Sg) j=>(z6u s.1,(C,(z6u (ixM g),(z1x s.2,(off,(len,(DK,(a,(kd,(z0a fl l,((l.length:Int),((j:Int),()))))))))))))) (y96 g)
  (fun s _=>s.2.length=g.length∧∀ x k,z2k s.1 x=some k→k<128) (fun s=>(C,(z6u (ixM g),(z1x s.2,(off,(len,(DK,(a,(kd,())))))))))
  (fun s j c m N=>by
   obtain ⟨o,G⟩:=N
   have P:j<l.length:=(eAe.1 m).1
   have A:=eAn m
   obtain ⟨J,O⟩:=stp j (by omega)
   have r:(j:Int)<l.length:=by omega
   have w:=x65 (hm c A)
   have F:=w41 (hm c A)
   have L:(z2k (ixM g) c.n).isSome=true:=by rw [F]; rfl
   have z:=v2k F
   have H:=v1y C (z0a fl l) DK (z6u (ixM g)) off len (gi g c) g.length a kd l.length j c.t s.1 s.2 v w o G (M c A)
   have e:∀ (t:List Int) (s:List (Int×Nat)×List Sg),s.2.length=g.length→(∀ x k,z2k s.1 x=some k→k<128)→(t.foldl (z12 (gi g c)) s).2.length=g.length∧∀ y k,z2k (t.foldl (z12 (gi g c)) s).1 y=some k→k<128:=by
    intro t
    induction t with
    |nil=>intro s E B; exact ⟨E,B⟩
    |cons x t I=>
     intro s E B
     refine I _ ?_ ?_
     ·unfold z12; simp only; cases z2k s.1 x<;>simp [E]
     ·intro y k i
      simp only [z12,y3b] at i
      split at i
      ·cases i; omega
      ·exact B y k i
   refine ⟨?_,e c.t s o G⟩
   simp only [z0a,z0i] at H
   have d:=y3q (fl:=fl) m
   have u:(l.map (eC fl)).length=l.length:=by simp
   have p:(c.t.map eI).length=c.t.length:=by simp
   simp only [w6x,z0j,z0k,z0a,z0i,z02,z3j,z0a,z0i,z0o,eAa,eAb,eAc,r,O,J,d,m,w8d,y8r,L,z,H,p,u,z4s,y96])
  (fun s _=>by
   have q:¬ (l.length:Int)<l.length:=by omega
   simp only [w6x,z0j,z0k,q,if_false,z0o,eAa,eAb,eAc]) ([],f) ⟨o,fun x k h=>by cases h⟩
 exact key.1
def eDk (fl:List Int→Bool) (l:List Cd):List D:=[.list false 4 (z0a fl l)]
def z90 (fl:List Int→Bool) (d:List (List Cd)):List (List D):=d.map (eDk fl)
theorem x5a (l:List Cd):z2v [CK.list 4] (eDk fl l)=true:=rfl
theorem v3o (l:List Cd):dL ((eDk fl l)[0]?.getD D.nilp)=z0a fl l:=rfl
theorem v10 (C:List (List D)) (off len:Nat) (g:List Cd) (hg:(g.map (·.n)).Nodup) (r:g.length≤128) (dks:List (List Cd)) (hm:∀ l∈dks,∀ c∈l,c∈g) (e:List Sg) (y:e.length=g.length) (A:dks.length≤1000000) (m:∀ l∈dks,l.length≤1000000) (z:∀ l∈dks,Few l):
  z1a (w6y std) (C,(z6u (ixM g),(z1x e,(off,(len,(z90 fl dks,((dks.length:Int),((0:Int),()))))))))=some (C,(z6u (ixM g),(z1x (dks.foldl (y7l g) e),(off,(len,()))))):=by
 have key:=z8v (b:=w6y std) dks (fun (s:List Sg) j=>(C,(z6u (ixM g),(z1x s,(off,(len,(z90 fl dks,((dks.length:Int),((j:Int),()))))))))) (y7l g)
  (fun s _=>s.length=g.length) (fun s=>(C,(z6u (ixM g),(z1x s,(off,(len,()))))))
  (fun s j l f u=>by
   have E:j<dks.length:=(eAe.1 f).1
   have p:=eAn f
   obtain ⟨w,B⟩:=stp j (by omega)
   have k:(j:Int)<dks.length:=by omega
   have v:=v1z (fl:=fl) C (z90 fl dks) off len dks.length j g l hg r (hm l p) s u (m l p) (z l p)
   have d:(y7l g s l).length=g.length:=by
    have:∀ (q:List Cd) (s:List (Int×Nat)×List Sg),(q.foldl (y96 g) s).2.length=s.2.length:=by
     intro q
     induction q with
     |nil=>intro s; rfl
     |cons c q h=>
      intro s
      rw [eDo,h]
      have:∀ (t:List Int) (s:List (Int×Nat)×List Sg),(t.foldl (z12 (gi g c)) s).2.length=s.2.length:=by
       intro t
       induction t with
       |nil=>intro s; rfl
       |cons x t h=>
        intro s
        rw [eDo,h]
        unfold z12; simp only; cases z2k s.1 x<;>simp
      exact this c.t s
    exact (this l ([],s)).trans u
   refine ⟨?_,d⟩
   have a:(dks.map (eDk fl))[j]?=some (eDk fl l):=by rw [eAj,f]; rfl
   have o:(l.map (eC fl)).length=l.length:=by simp
   simp only [z90,z0a] at v
   simp only [w6y,z0j,z0k,x5a,v3o,z90,z0a,z0o,eAa,eAb,eAc,k,B,w,a,f,v,o])
  (fun s _=>by
   have i:¬ (dks.length:Int)<dks.length:=by omega
   simp only [w6y,z0j,z0k,i,if_false,z0o,eAa,eAb,eAc]) e y
 exact key.1
theorem w0h (g:List Cd) (c:Cd):(y8q g c).length≤g.length+1:=by unfold y8q; split<;>simp
theorem v11 (DK f:List (List D)) (p kd:Int) (g l:List Cd) (y:g.length+l.length≤1000) (G:Few l):
  z1a (w2g std) (z0a fl g,(z6u (ixM g),(0,(g.length,(DK,(f,(p,(kd,(z0a fl l,((l.length:Int),((0:Int),())))))))))))=
   some (z0a fl (l.foldl y8q g),(z6u (ixM (l.foldl y8q g)),(0,((l.foldl y8q g).length,(DK,(f,(p,(kd,())))))))):=by
 have key:=z8v (b:=w2g std) l (fun (g:List Cd) j=>(z0a fl g,(z6u (ixM g),(0,(g.length,(DK,(f,(p,(kd,(z0a fl l,((l.length:Int),((j:Int),())))))))))))) y8q
  (fun h j=>h.length≤g.length+j) (fun g=>(z0a fl g,(z6u (ixM g),(0,(g.length,(DK,(f,(p,(kd,())))))))))
  (fun h j c k I=>by
   have F:j<l.length:=(eAe.1 k).1
   have H:=eAn k
   obtain ⟨r,v⟩:=stp j (by omega)
   have m:(j:Int)<l.length:=by omega
   refine ⟨?_,by have:=w0h h c; omega⟩
   have a:=u1j h c.n
   have i:=y3q (fl:=fl) k
   have o:(l.map (eC fl)).length=l.length:=by simp
   cases q:h.any (fun d=>decide (d.n=c.n)) with
   |true=>
    rw [q] at a
    simp only [w2g,z0j,z0k,z0a,z0i,z02,z3j,z0a,z0o,eAa,eAb,eAc,m,v,r,i,k,w8d,y8r,a,o,y8q,q]
   |false=>
    rw [q] at a
    have e:z2k (ixM h) c.n=none:=by cases x:z2k (ixM h) c.n with|none=>rfl|some _=>rw [x] at a; cases a
    have u:=v8u e h.length
    rw [u1k e] at u
    have E:(0:Int)≤(h.length:Int):=by omega
    have C:¬ h.length+1≤h.length:=by omega
    have B:h.length+1≤1000000:=by omega
    have w:(h.map (eC fl)).length=h.length:=by simp
    have A:(h.map (eC fl)).take h.length=h.map (eC fl):=by rw [←w,eDf]
    simp only [w2g,z0j,z0k,z0a,z0i,z02,z3j,z0a,z0o,eAa,eAb,eAc,m,v,r,i,k,w8d,y8r,a,o,y8q,q,u,E,C,B,w,A,eGs,eBk,eFx,eAp,eDd,eCo]
    have z:std.rdF (l.map (eC fl)) j 2 1=fl c.t:=u0f ‹_›
    rw [z]
    simp [eC,z0i])
  (fun s _=>by
   have e:¬ (l.length:Int)<l.length:=by omega
   simp only [w2g,z0j,z0k,e,if_false,z0o,eAa,eAb,eAc]) g (eAp _)
 exact key.1
theorem y1i:∀ (l g:List Cd),(l.foldl y8q g).length≤g.length+l.length
 |[],g=>by simp
 |c::l,g=>by
  have:=y1i l (y8q g c)
  have:=w0h g c
  simp only [eDo,eCa]; omega
theorem v12 (dks:List (List Cd)) (p:dks.length≤2) (f:∀ l∈dks,l.length≤60) (o:∀ l∈dks,Few l):
  z1a (w6z std) ([],([],(0,(0,(z90 fl dks,(z90 fl dks,((dks.length:Int),((0:Int),()))))))))=some (z0a fl (z5m dks),(z6u (ixM (z5m dks)),(0,((z5m dks).length,(z90 fl dks,())))))∧(z5m dks).length≤dks.length*60:=by
 have key:=z8v (b:=w6z std) dks (fun (g:List Cd) j=>(z6u (ixM g),(z0a fl g,(0,(g.length,(z90 fl dks,(z90 fl dks,((dks.length:Int),((j:Int),()))))))))) (fun g l=>l.foldl y8q g)
  (fun h j=>h.length≤j*60) (fun g=>(z0a fl g,(z6u (ixM g),(0,(g.length,(z90 fl dks,()))))))
  (fun h j l c u=>by
   have t:j<dks.length:=(eAe.1 c).1
   have k:=eAn c
   obtain ⟨n,r⟩:=stp j (by omega)
   have e:(j:Int)<dks.length:=by omega
   have q:=f l k
   have m:=v11 (fl:=fl) (z90 fl dks) (z90 fl dks) dks.length j h l (by omega) (o l k)
   refine ⟨?_,by have:=y1i l h; omega⟩
   have a:(dks.map (eDk fl))[j]?=some (eDk fl l):=by rw [eAj,c]; rfl
   have i:(l.map (eC fl)).length=l.length:=by simp
   simp only [z90,z0a] at m
   simp only [w6z,z0j,z0k,x5a,v3o,z90,z0a,z0o,eAa,eAb,eAc,e,r,n,a,c,m,i])
  (fun s _=>by
   have d:¬ (dks.length:Int)<dks.length:=by omega
   simp only [w6z,z0j,z0k,d,if_false,z0o,eAa,eAb,eAc]) [] (by simp)
 exact key
structure t5v (g:List Cd) (dks:List (List Cd)):Prop where
 nums:(g.map (·.n)).Nodup
 mem:∀ l∈dks,∀ c∈l,c∈g
 wf:∀ l∈dks,l.length≤60∧l.Nodup∧∀ c∈l,c.t.Nodup∧c.t.length≤1000000
theorem u6p (dks:List (List Cd)) (f:dks.length≤2) (b:t5v (z5m dks) dks):
  G66 std (z90 fl dks,())=some (z0a fl (z5m dks),(z6u (ixM (z5m dks)),(z1x (u8p (z5m dks) dks),(0,((z5m dks).length,()))))):=by
 obtain ⟨m,i⟩:=v12 (fl:=fl) dks f (fun l a=>(b.wf l a).1) (fun l a c h=>((b.wf l a).2.2 c h).2)
 generalize z5m dks=g at*
 have e:g.length≤128:=by omega
 have k:=v10 (fl:=fl) (z0a fl g) 0 g.length g b.nums e dks b.mem (eAu g.length Sg.none) (by simp) (by omega) (fun l a=>by have:=(b.wf l a).1; omega) (fun l a c h=>((b.wf l a).2.2 c h).2)
 have d:eAu g.length [D.int .u64 0,D.int .u64 0]=z1x (eAu g.length Sg.none):=by
  unfold z1x; rw [List.map_replicate]; rfl
 unfold G66 u8p
 have j:(z90 fl dks).length=dks.length:=by simp [z90]
 have p:(0:Int)≤(g.length:Int):=by omega
 have o:(g.length:Int)≤1000000:=by omega
 have n:(z1x (eAu g.length Sg.none)).length=g.length:=by simp [z1x]
 simp only [z0j,z0k,z0o,eAa,eAb,eAc,j,m,k,d,p,o,n,eDd]
def x7x (g rem:List Cd) (s:Sg):Prop:=∀ k c,g[k]?=some c→s.has k=!decide (c∈rem)
theorem x3r {g rem:List Cd} {i:List Sg} {B:Cd→Cd→Bool} (n:Rp i g B) (t:g.length≤128) (u:Inj g) (l:∀ x∈rem,x∈g) {s:Sg} (q:x7x g rem s) {j:Nat} {d:Cd} (p:g[j]?=some d):
  (((i.getD j Sg.none).and s).a=(i.getD j Sg.none).a∧((i.getD j Sg.none).and s).b=(i.getD j Sg.none).b)↔z4c B rem d=true:=by
 rw [Sg.and_sub,z5c]
 constructor
 ·intro h e he
  obtain ⟨k,o,m⟩:=eBs.1 (l e he)
  have c:g[k]?=some e:=by rw [eAd o,m]
  have f:=n.2 j d p k
  rw [c] at f
  cases r:B e d with
  |false=>rfl
  |true=>
   have:=h k (by omega) (by rw [f]; exact r)
   rw [q k e c] at this
   simp [he] at this
 ·intro h k o f
  rw [n.2 j d p k] at f
  cases c:g[k]? with
  |none=>rw [c] at f; cases f
  |some e=>
   rw [c] at f
   rw [q k e c]
   have f:B e d=true:=f
   have:e∉rem:=fun he=>by rw [h e he] at f; cases f
   simp [this]
def w73 (B:Cd→Cd→Bool) (g rem:List Cd) (b:Int) (j:Nat):Prop:=
 (b= -1∧∀ i d,i<j→g[i]?=some d→d∈rem→z4c B rem d=true→False)∨
 ∃ (k:Nat) (c:Cd),b=(k:Int)∧k<j∧g[k]?=some c∧c∈rem∧z4c B rem c=true∧∀ i d,i<j→g[i]?=some d→d∈rem→z4c B rem d=true→c.n≤d.n
theorem x5f {B:Cd→Cd→Bool} {g rem:List Cd} {b:Int} (q:Inj g) (a:∀ x∈rem,x∈g) (h:w73 B g rem b g.length) {f:Cd} (o:x2f B rem=some f):∃ k:Nat,b=(k:Int)∧g[k]?=some f:=by
 have m:=q.sub a
 have l:=(x2e B m).1 o
 rcases h with ⟨rfl,h⟩|⟨k,c,rfl,t,s,hm,r,p⟩
 ·obtain ⟨i,e,he⟩:=eBs.1 (a f l.1)
  exact (h i f e (by rw [eAd e,he]) l.1 ((z5c B).2 l.2.1)).elim
 ·refine ⟨k,rfl,?_⟩
  have:x2f B rem=some c:=(x2e B m).2 ⟨hm,(z5c B).1 r,fun d n j=>by
   obtain ⟨i,e,he⟩:=eBs.1 (a d n)
   exact p i d e (by rw [eAd e,he]) n ((z5c B).2 j)⟩
  rw [o] at this
  cases this
  exact s
theorem y06 {B:Cd→Cd→Bool} {g rem:List Cd} {b:Int} {j:Nat} (h:w73 B g rem b j) {d:Cd} (p:g[j]?=some d) (m:¬ (d∈rem∧z4c B rem d=true)):w73 B g rem b (j+1):=by
 have n:∀ i e,i<j+1→g[i]?=some e→e∈rem→z4c B rem e=true→i<j:=by
  intro i e l he f a
  rcases eCu i j with h|h
  ·exact h
  ·have:i=j:=by omega
   subst this
   rw [p] at he; cases he
   exact absurd ⟨f,a⟩ m
 rcases h with ⟨rfl,h⟩|⟨k,c,rfl,s,r,hm,q,o⟩
 ·exact .inl ⟨rfl,fun i e l he f a=>h i e (n i e l he f a) he f a⟩
 ·exact .inr ⟨k,c,rfl,by omega,r,hm,q,fun i e l he f a=>o i e (n i e l he f a) he f a⟩
theorem v1x (E:List (List D)) (R:List (D×D)) (g rem:List Cd) (o:List Sg) {B:Cd→Cd→Bool} (T:Rp o g B) (W:g.length≤128) (hi:Inj g) (w:∀ x∈rem,x∈g) {s:Sg} (hd:x7x g rem s) (d0 d1 P O:Int) {Z:Cd} (hb:x2f B rem=some Z):
  ∃ k:Nat,z1a (y8n std) (z0a fl g,(R,(z1x o,(E,(0,(g.length,(d0,(d1,((-1:Int),((s.a:Int),((s.b:Int),(P,(O,((g.length:Int),((0:Int),())))))))))))))))=
   some (z0a fl g,(R,(z1x o,(E,(0,(g.length,(d0,(d1,((k:Int),((s.a:Int),((s.b:Int),(P,(O,())))))))))))))∧g[k]?=some Z:=by
 have key:=z3c (b:=y8n std) g.length (fun (b:Int) j=>(z0a fl g,(R,(z1x o,(E,(0,(g.length,(d0,(d1,(b,((s.a:Int),((s.b:Int),(P,(O,((g.length:Int),((j:Int),()))))))))))))))))
  (fun b j=>w73 B g rem b j) (fun r=>∃ k:Nat,r=(z0a fl g,(R,(z1x o,(E,(0,(g.length,(d0,(d1,((k:Int),((s.a:Int),((s.b:Int),(P,(O,())))))))))))))∧g[k]?=some Z)
  (fun b j hj C=> .inl (by
   obtain ⟨d,f⟩:=z0d hj
   obtain ⟨G,H⟩:=stp j (by omega)
   have q:(j:Int)<g.length:=by omega
   have p:=y3e s j (by omega)
   rw [hd j d f] at p
   have S:o[j]?=some (o.getD j Sg.none):=by rw [eAr,eAd (by rw [T.1]; exact hj)]; rfl
   have l:(o.map eS)[j]?=some (eS (o.getD j Sg.none)):=by rw [eAj,S]; rfl
   have t:(o.map eS).length=g.length:=by rw [eBp,T.1]
   have m:=w7w (o.getD j Sg.none) s
   have I:=x3r T W hi w hd f
   by_cases hm:d∈rem
   ·by_cases M:z4c B rem d=true
    ·obtain ⟨ea,eb⟩:=I.2 M
     rw [ea,eb] at m
     have u:=y3q (fl:=fl) f
     rcases C with ⟨rfl,C⟩|⟨k,c,rfl,Q,hc,X,Y,N⟩
     ·refine ⟨(j:Int),?_, .inr ⟨j,d,rfl,by omega,f,hm,M,fun i e A he v F=>?_⟩⟩
      ·simp only [y8n,z0j,z0k,z1x,z0a,z1u,z4o,z4n,z0o,eAa,eAb,eAc,q,H,G,p,hm,l,t,m]
      ·rcases eCu i j with h|h
       ·exact (C i e h he v F).elim
       ·have:i=j:=by omega
        subst this
        rw [f] at he; cases he; exact eDd _
     ·have z:=y3q (fl:=fl) hc
      have L:¬ (k:Int)<0:=by omega
      have K:(0:Int)≤(k:Int):=by omega
      have J:(k:Int)<(g.length:Int):=by omega
      by_cases y:d.n<c.n
      ·refine ⟨(j:Int),?_, .inr ⟨j,d,rfl,by omega,f,hm,M,fun i e A he v F=>?_⟩⟩
       ·simp only [y8n,z0j,z0k,z0a,z0i,z02,z3j,z1x,z0a,z1u,z4o,z4n,z0o,eAa,eAb,eAc,q,H,G,p,hm,l,t,m,u,z,L,K,J,y]
       ·rcases eCu i j with h|h
        ·have:=N i e h he v F; omega
        ·have:i=j:=by omega
         subst this
         rw [f] at he; cases he; exact eDd _
      ·refine ⟨(k:Int),?_, .inr ⟨k,c,rfl,by omega,hc,X,Y,fun i e A he v F=>?_⟩⟩
       ·simp only [y8n,z0j,z0k,z0a,z0i,z02,z3j,z1x,z0a,z1u,z4o,z4n,z0o,eAa,eAb,eAc,q,H,G,p,hm,l,t,m,u,z,L,K,J,y]
       ·rcases eCu i j with h|h
        ·exact N i e h he v F
        ·have:i=j:=by omega
         subst this
         rw [f] at he; cases he; omega
    ·refine ⟨b,?_,y06 C f fun h=>M h.2⟩
     have V:¬ ((((o.getD j Sg.none).and s).a:Int)=((o.getD j Sg.none).a:Int)∧(((o.getD j Sg.none).and s).b:Int)=((o.getD j Sg.none).b:Int)):=fun h=>M (I.1 ⟨by omega,by omega⟩)
     by_cases v:(((o.getD j Sg.none).and s).a:Int)=((o.getD j Sg.none).a:Int)
     ·have F:¬ (((o.getD j Sg.none).and s).b:Int)=((o.getD j Sg.none).b:Int):=fun h=>V ⟨v,h⟩
      simp only [y8n,z0j,z0k,z1x,z0a,z1u,z4o,z4n,z0o,eAa,eAb,eAc,q,H,G,p,hm,l,t,m,v,F]
     ·simp only [y8n,z0j,z0k,z1x,z0a,z1u,z4o,z4n,z0o,eAa,eAb,eAc,q,H,G,p,hm,l,t,m,v]
   ·refine ⟨b,?_,y06 C f fun h=>hm h.1⟩
    simp only [y8n,z0j,z0k,z1x,z0a,z1u,z4o,z4n,z0o,eAa,eAb,eAc,q,H,G,p,hm,l,t]))
  (fun b C=>by
   obtain ⟨k,rfl,Q⟩:=x5f hi w C hb
   have U:¬ (g.length:Int)<g.length:=by omega
   exact ⟨_,by simp only [y8n,z0j,z0k,U,if_false,z0o,eAa,eAb,eAc],k,rfl,Q⟩) (-1) 0 (eBb _) (.inl ⟨rfl,fun i d A=>by omega⟩)
 obtain ⟨r,v,k,rfl,Q⟩:=key
 exact ⟨k,v,Q⟩
def t40 (B:Cd→Cd→Bool) (g:List Cd):Prop:=∀ rem:List Cd,(∀ x∈rem,x∈g)→rem≠[]→∃ c,x2f B rem=some c
structure t4k (B:Cd→Cd→Bool) (g:List Cd) (t:List Cd×List Cd×Sg) (i:Nat):Prop where
 len:t.2.1.length+i=g.length
 olen:t.1.length=i
 sub:∀ x∈t.2.1,x∈g
 nd:t.2.1.Nodup
 done:x7x g t.2.1 t.2.2
 res:t.1++lst B t.2.1.length t.2.1=lst B g.length g
theorem w4r {B:Cd→Cd→Bool} {g:List Cd} (f:(g.map (·.n)).Nodup) (s:g.length≤128) {t:List Cd×List Cd×Sg} {i:Nat} (h:t4k B g t i) {c:Cd} (o:x2f B t.2.1=some c) {k:Nat} (l:g[k]?=some c):
  t4k B g (t.1++[c],rm c t.2.1,t.2.2.wth k) (i+1):=by
 have r:=z2f f
 have u:=((x2e B (r.sub h.sub)).1 o).1
 have b:=y6h h.nd u
 have q:k<g.length:=(eAe.1 l).1
 refine ⟨?_,by simp [h.olen],fun x p=>h.sub x (y0f.1 p).1,h.nd.filter _,fun j d a=>?_,?_⟩
 ·have:=h.len; simp only; omega
 ·simp only
  rw [Sg.has_wth _ (by omega),h.done j d a]
  by_cases e:j=k
  ·subst e
   rw [l] at a; cases a
   simp [y0f]
  ·have m:d≠c:=by
    rintro rfl
    exact e ((z74 f a).symm.trans (z74 f l))
   simp [y0f,e,m]
 ·simp only
  rw [←h.res, ←b]
  conv=>rhs; rw [lst]
  rw [o]
  simp only [eDr,List.singleton_append,Nat.add_sub_cancel]
theorem u6o (j:List (D×D)) (g:List Cd) (d:List Sg) {B:Cd→Cd→Bool} (I:Rp d g B) (q:g.length≤128) (z:(g.map (·.n)).Nodup) (s:t40 B g) (O:∀ c∈g,1≤c.t.length∧c.t.length≤1000000):
  G67 std (z0a fl g,(j,(z1x d,(0,(g.length,())))))=some (z0a fl g,(j,(z1x d,(z0a (fun _=>false) (lst B g.length g),(0,(g.length,())))))):=by
 have S:=z2f z
 have key:=z3c (b:=w6w std) g.length (fun (t:List Cd×List Cd×Sg) i=>(z0a fl g,(j,(z1x d,(z0a (fun _=>false) t.1,(0,(g.length,((t.2.2.a:Int),((t.2.2.b:Int),((g.length:Int),((i:Int),())))))))))))
  (t4k B g) (fun r=>r=(z0a fl g,(j,(z1x d,(z0a (fun _=>false) (lst B g.length g),(0,(g.length,())))))))
  (fun t i Q f=> .inl (by
   obtain ⟨v,G⟩:=stp i (by omega)
   have o:(i:Int)<g.length:=by omega
   have y:t.2.1≠[]:=by intro e; have:=f.len; rw [e] at this; simp at this; omega
   obtain ⟨c,K⟩:=s t.2.1 f.sub y
   obtain ⟨k,L,l⟩:=v1x (fl:=fl) (z0a (fun _=>false) t.1) j g t.2.1 d I q S f.sub f.done (t.2.2.a:Int) (t.2.2.b:Int) (g.length:Int) (i:Int) K
   have R:k<g.length:=(eAe.1 l).1
   have E:=w7s t.2.2 k (by omega)
   have J:=O c (eAn l)
   have u:=u6j c J.1 J.2
   refine ⟨(t.1++[c],rm c t.2.1,t.2.2.wth k),?_,w4r z q f K l⟩
   have m:=y3q (fl:=fl) l
   have C:(0:Int)≤(k:Int):=by omega
   have A:(k:Int)<(g.length:Int):=by omega
   have P:=f.olen
   have N:i+1≤1000000:=by omega
   have H:(t.1.map (eC fun _=>false)).length=i:=by simp [P]
   have M:(t.1.map (eC fun _=>false)).take i=t.1.map (eC fun _=>false):=by rw [←H,eDf]
   have p:(d.map eS).length=g.length:=by rw [eBp,I.1]
   simp only [z0a,z1x,z0i] at L u
   simp only [w6w,z0j,z0k,z0a,z0i,z02,z3j,z1x,z0a,z0i,z0o,eAa,eAb,eAc,o,G,v,L,p,E,m,u,C,A,N,H,M,eAy,eAp,eCo]
   simp [eC,z0i,N,H,M]))
  (fun t f=>⟨(z0a fl g,(j,(z1x d,(z0a (fun _=>false) t.1,(0,(g.length,())))))),by
   have w:¬ (g.length:Int)<g.length:=by omega
   simp only [w6w,z0j,z0k,w,if_false,z0o,eAa,eAb,eAc],by
   have G:t.2.1=[]:=eBw.1 (by have:=f.len; omega)
   have:=f.res
   rw [G] at this
   simp only [eDw,lst,eDx] at this
   simp only [this]⟩) ([],g,Sg.none) 0 (eBb _) ⟨by simp,rfl,fun x h=>h,z3k z,fun k c l=>by rw [Sg.has_none]; simp [eAn l],rfl⟩
 obtain ⟨r,F,rfl⟩:=key
 have F:z1a (w6w std) (z0a fl g,(j,(z1x d,([],(0,(g.length,((0:Int),((0:Int),((g.length:Int),((0:Int),()))))))))))=_:=F
 unfold G67
 simp only [z0j,z0k,F]
def via (k:Cd) (B:Cd→Cd→Bool):Cd→Cd→Bool:=fun i j=>B i j||(B i k&&B k j)
theorem y7p:∀ (ks:List Cd) (B:Cd→Cd→Bool),clo B ks=ks.foldl (fun B k=>via k B) B
 |[],_=>rfl
 |k::ks,B=>by rw [clo,eDo,y7p ks]; rfl
def t5u (a:List Sg) (g:List Cd) (B:Cd→Cd→Bool) (k:Cd) (m:Nat):Prop:=
 a.length=g.length∧∀ i c,g[i]?=some c→∀ x,(a.getD i Sg.none).has x=match g[x]? with|some d=>if i<m then via k B d c else B d c|none=>false
theorem w9l {a:List Sg} {g:List Cd} {B:Cd→Cd→Bool} {k:Cd} {m:Nat} (h:t5u a g B k m) {i:Nat} (b:g[i]?=some k) (x:Nat):(a.getD i Sg.none).has x=match g[x]? with|some d=>B d k|none=>false:=by
 rw [h.2 i k b x]
 cases g[x]? with
 |none=>rfl
 |some d=>
  simp only
  split
  ·unfold via; cases B d k<;>simp
  ·rfl
theorem v1u (C:List (List D)) (F:List (D×D)) (off:Nat) (g:List Cd) (S:g.length≤128) {B:Cd→Cd→Bool} (f:List Sg) (Q:Rp f g B) (k:Nat) {K:Cd} (N:g[k]?=some K) (v u:Int):
  ∃ h,z1a (w2e std) (C,(F,(z1x f,(off,(g.length,((k:Int),(v,(u,((g.length:Int),((0:Int),()))))))))))=some (C,(F,(z1x h,(off,(g.length,(v,(u,())))))))∧Rp h g (via K B):=by
 have J:k<g.length:=(eAe.1 N).1
 have key:=z3c (b:=w2e std) g.length (fun (f:List Sg) i=>(C,(F,(z1x f,(off,(g.length,((k:Int),(v,(u,((g.length:Int),((i:Int),())))))))))))
  (fun f i=>t5u f g B K i) (fun r=>∃ h,r=(C,(F,(z1x h,(off,(g.length,(v,(u,())))))))∧Rp h g (via K B))
  (fun f i A l=> .inl (by
   obtain ⟨c,o⟩:=z0d A
   obtain ⟨P,R⟩:=stp i (by omega)
   have w:(i:Int)<g.length:=by omega
   have M:(0:Int)≤(k:Int):=by omega
   have L:(k:Int)<(g.length:Int):=by omega
   have t:∀ j,j<g.length→(f.map eS)[j]?=some (eS (f.getD j Sg.none)):=fun j p=>by
    rw [eAj,eAr,eAd (by rw [l.1]; exact p)]; rfl
   have s:=t i A
   have y:=t k J
   have E:(f.map eS).length=g.length:=by rw [eBp,l.1]
   have n:=y3e (f.getD i Sg.none) k (by omega)
   have m:=l.2 i c o k
   rw [N] at m
   simp only [Nat.lt_irrefl,if_false] at m
   rw [m] at n
   have O:=u6k (f.getD i Sg.none) (f.getD k Sg.none)
   cases G:B K c with
   |true=>
    rw [G] at n
    refine ⟨f.set i ((f.getD i Sg.none).or (f.getD k Sg.none)),?_,by rw [eFz,l.1],fun j d p x=>?_⟩
    ·have q:=x9n f i ((f.getD i Sg.none).or (f.getD k Sg.none))
     simp only [show ∀ z:Sg,eS z=[.int .u64 (z.a:Int), .int .u64 (z.b:Int)] from fun _=>rfl,z1x] at q
     have I:((f.set i ((f.getD i Sg.none).or (f.getD k Sg.none))).map eS).length=g.length:=by rw [eBp,eFz,l.1]
     simp only [w2e,z0j,z0k,z1x,z1u,z4o,z4n,z0o,eAa,eAb,eAc,w,R,P,s,y,E,n,O,M,L,q,I]
    ·by_cases e:j=i
     ·subst e
      rw [o] at p; cases p
      rw [x4i (by rw [l.1]; exact A),Sg.has_or,l.2 j c o x,w9l l N x]
      cases g[x]? with
      |none=>rfl
      |some d=>
       simp only [Nat.lt_irrefl,if_false,Nat.lt_succ_self,if_true,via,G,eDm]
     ·rw [x4h e,l.2 j d p x]
      have:(j<i+1)↔j<i:=by omega
      simp only [this]
   |false=>
    rw [G] at n
    refine ⟨f,?_,l.1,fun j d p x=>?_⟩
    ·simp only [w2e,z0j,z0k,z1x,z1u,z4o,z4n,z0o,eAa,eAb,eAc,w,R,P,s,y,E,n]
    ·by_cases e:j=i
     ·subst e
      rw [o] at p; cases p
      rw [l.2 j c o x]
      cases g[x]? with
      |none=>rfl
      |some d=>simp only [Nat.lt_irrefl,if_false,Nat.lt_succ_self,if_true,via,G,eGq,eGd]
     ·rw [l.2 j d p x]
      have:(j<i+1)↔j<i:=by omega
      simp only [this]))
  (fun f l=>by
   have H:¬ (g.length:Int)<g.length:=by omega
   refine ⟨(C,(F,(z1x f,(off,(g.length,(v,(u,()))))))),by simp only [w2e,z0j,z0k,H,if_false,z0o,eAa,eAb,eAc],f,rfl,l.1,fun i c o x=>?_⟩
   have A:i<g.length:=(eAe.1 o).1
   rw [l.2 i c o x]
   cases g[x]? with
   |none=>rfl
   |some d=>simp only [A,if_true]) f 0 (eBb _) ⟨Q.1,fun i c o x=>by
    rw [Q.2 i c o x]
    cases g[x]? with
    |none=>rfl
    |some d=>simp⟩
 obtain ⟨r,U,h,rfl,T⟩:=key
 exact ⟨h,U,T⟩
theorem u6m (C:List (List D)) (d:List (D×D)) (off:Nat) (g:List Cd) (h:g.length≤128) {B:Cd→Cd→Bool} (c:List Sg) (o:Rp c g B):
  ∃ a,G70 std (C,(d,(z1x c,(off,(g.length,())))))=some (C,(d,(z1x a,(off,(g.length,())))))∧Rp a g (clo B g):=by
 have key:=z3c (b:=w6u std) g.length (fun (c:List Sg) k=>(C,(d,(z1x c,(off,(g.length,((g.length:Int),((k:Int),()))))))))
  (fun c k=>Rp c g ((g.take k).foldl (fun B k=>via k B) B)) (fun r=>∃ a,r=(C,(d,(z1x a,(off,(g.length,())))))∧Rp a g (clo B g))
  (fun c k p hR=> .inl (by
   obtain ⟨K,m⟩:=z0d p
   obtain ⟨n,q⟩:=stp k (by omega)
   have f:(k:Int)<g.length:=by omega
   obtain ⟨a,j,i⟩:=v1u C d off g h c hR k m g.length k
   refine ⟨a,by simp only [w6u,z0j,z0k,z0o,eAa,eAb,eAc,f,q,n,j],?_⟩
   rw [eGb,m,List.foldl_append]
   exact i))
  (fun c hR=>by
   have e:¬ (g.length:Int)<g.length:=by omega
   rw [eDf] at hR
   exact ⟨(C,(d,(z1x c,(off,(g.length,()))))),by simp only [w6u,z0j,z0k,e,if_false,z0o,eAa,eAb,eAc],c,rfl,by rw [y7p]; exact hR⟩) c 0 (eBb _) o
 obtain ⟨r,l,a,rfl,j⟩:=key
 have l:z1a (w6u std) (C,(d,(z1x c,(off,(g.length,((g.length:Int),((0:Int),())))))))=_:=l
 refine ⟨a,?_,j⟩
 unfold G70
 simp only [z0j,z0k,l]
theorem u6d (C:List (List D)) (f:List (D×D)) (off:Nat) (g:List Cd) (u:g.length≤128) {B:Cd→Cd→Bool} (a:List Sg) (l:Rp a g B):
  G91 std (C,(f,(z1x a,(off,(g.length,())))))=some (C,(f,(z1x a,(off,(g.length,((g.any fun c=>B c c),())))))):=by
 have key:=z11 (b:=w2d std) g.length (fun k=>(C,(f,(z1x a,(off,(g.length,((g.length:Int),((k:Int),())))))))) (fun i=>B (g.getD i default) (g.getD i default)) (.inl (C,(f,(z1x a,(off,(g.length,(true,()))))))) (.inr (C,(f,(z1x a,(off,(g.length,()))))))
  (fun k q=>by
   obtain ⟨K,o⟩:=z0d q
   obtain ⟨p,s⟩:=stp k (by omega)
   have h:(k:Int)<g.length:=by omega
   have e:(a.map eS)[k]?=some (eS (a.getD k Sg.none)):=by
    rw [eAj,eAr,eAd (by rw [l.1]; exact q)]; rfl
   have j:(a.map eS).length=g.length:=by rw [eBp,l.1]
   have d:=y3e (a.getD k Sg.none) k (by omega)
   have n:=l.2 k K o k
   rw [o] at n
   simp only at n
   rw [n] at d
   rw [z0p o]
   cases r:B K K with
   |true=>rw [r] at d; simp only [w2d,z0j,z0k,z1x,z1u,z4o,z4n,z0o,eAa,eAb,eAc,h,s,p,e,j,d]
   |false=>rw [r] at d; simp only [w2d,z0j,z0k,z1x,z1u,z4o,z4n,z0o,eAa,eAb,eAc,h,s,p,e,j,d])
  (by
   have m:¬ (g.length:Int)<g.length:=by omega
   simp only [w2d,z0j,z0k,m,if_false,z0o,eAa,eAb,eAc])
 have key:z1a (w2d std) (C,(f,(z1x a,(off,(g.length,((g.length:Int),((0:Int),())))))))=_:=key
 have v:((eAv g.length).any fun i=>B (g.getD i default) (g.getD i default))=g.any fun c=>B c c:=z6l g default fun c=>B c c
 rw [v] at key
 unfold G91
 have t:(z1x a).length=g.length:=by rw [x16,l.1]
 simp only [z0j,z0k,t,key]
 cases (g.any fun c=>B c c)<;>rfl
def Adj (l:List Int):Prop:=∃ i,0<i∧i<l.length∧l.getD i 0=l.getD (i - 1) 0
theorem x3z {l:List Int} (a:l.Pairwise (· ≤ ·)) (h:¬ Adj l):l.Nodup:=by
 rw [List.nodup_iff_pairwise_ne,eFi]
 intro i j b c d he
 refine h ⟨i+1,by omega,by omega,?_⟩
 have g:=eFi.1 a i (i+1) b (by omega) (by omega)
 have f:l[i+1]'(by omega)≤l[j]:=by
  by_cases e:i+1=j
  ·subst e; exact eDd _
  ·exact eFi.1 a (i+1) j (by omega) c (by omega)
 rw [z0p (eAd (by omega:i+1<l.length)),Nat.add_sub_cancel,z0p (eAd b)]
 omega
theorem y40 {l:List Int} (h:Adj l):¬ l.Nodup:=by
 obtain ⟨i,c,b,he⟩:=h
 intro a
 rw [z0p (eAd b),z0p (eAd (by omega:i - 1<l.length))] at he
 have:=(List.getElem_inj a).1 he
 omega
theorem t2z (n:Int):[D.int IntKind.i64 n]=eI n:=rfl
theorem x2t {i:Nat} (a:1≤i) (h:i<9223372036854775807):IntKind.i64.wrap ((i:Int) - 1)=((i - 1:Nat):Int):=by
 rw [y5q]<;>omega
theorem w7a (n a:Nat) (cap:Nat) (G:1≤a) (C:a<n) (F:n≤1000000) (l:List Int) (B:l.length=n):
  ∃ r,z1a (x0g std) (z0i l,(0,(n,(cap,((a:Int),(0+a,(n - a,(cap - a,((1:Int),())))))))))=some r∧
   ∃ (R:List Int) (k:Nat),r=(z0i R,(0,(n,(cap,((k:Int),())))))∧R.length=n∧k<n:=by
 have key:=z3c (b:=x0g std) (n - a) (fun (t:List Int×Nat) i=>(z0i t.1,(0,(n,(cap,((t.2:Int),(0+a,(n - a,(cap - a,((i:Int),())))))))))) (fun t i=>t.1.length=n∧a≤t.2∧1≤i∧t.2+1≤a+i)
  (fun r=>∃ (R:List Int) (k:Nat),r=(z0i R,(0,(n,(cap,((k:Int),())))))∧R.length=n∧k<n) (fun t i H ⟨c,p,o,v⟩=>by
   obtain ⟨R,k⟩:=t
   simp only at c p o v⊢
   obtain ⟨m,hm⟩:=z0d (l:=R) (i:=a+i) (by omega)
   obtain ⟨A,g⟩:=z0d (l:=R) (i:=a+(i - 1)) (by omega)
   obtain ⟨E,u⟩:=z0d (l:=R) (i:=k) (by omega)
   obtain ⟨x,z⟩:=stp i (by omega)
   obtain ⟨q,w⟩:=stp k (by omega)
   have h:(i:Int)<(n - a:Nat):=by omega
   have y:=x2t o (by omega:i<9223372036854775807)
   have f:(0:Int)≤((i - 1:Nat):Int):=by omega
   have d:((i - 1:Nat):Int)<(n - a:Nat):=by omega
   have j:(k:Int)<n:=by omega
   left
   by_cases e:m=A
   ·refine ⟨(R,k),?_,c,p,by omega,by omega⟩
    simp only [x0g,z0j,z0k,z0a,z0i,z02,z3j,z0o,eAa,eAb,eAc,z49,hm,g,h,z,x,y,f,d,e]
   ·refine ⟨(R.set k m,k+1),?_,by simp [c],by omega,by omega,by omega⟩
    simp only [x0g,z0j,z0k,z0a,z0i,z02,z3j,z0o,eAa,eAb,eAc,z49,hm,g,u,h,z,x,y,f,d,e,w,j,q,t2z,List.map_set]) (fun t ⟨c,p,o,v⟩=>by
   obtain ⟨R,k⟩:=t
   simp only at c p o v⊢
   refine ⟨_,?_,R,k,rfl,c,by omega⟩
   have s:¬ ((n - a:Nat):Int)<(n - a:Nat):=by omega
   simp only [x0g,z0j,z0k,z0a,z0i,z02,z3j,z0o,eAa,eAb,eAc,s]) (l,a) 1 (by omega) ⟨B,eAp _,eAp _,eAp _⟩
 exact key
theorem w7b (l:List Int) (C:l.length≤1000000) (F:2≤l.length):
  ∃ r,z1a (x0h std) (z0i l,(0,(l.length,(l.length,((1:Int),())))))=some r∧
   ((¬ Adj l∧r= .inr (z0i l,(0,(l.length,(l.length,())))))∨(Adj l∧∃ (R:List Int) (k:Nat),r= .inl (z0i R,(0,(k,(l.length,()))))∧R.length=l.length∧k<l.length)):=by
 have key:=z3c (b:=x0h std) l.length (fun (_:Unit) i=>(z0i l,(0,(l.length,(l.length,((i:Int),())))))) (fun _ i=>1≤i∧∀ j,0<j→j<i→l.getD j 0≠l.getD (j - 1) 0)
  (fun r=>(¬ Adj l∧r= .inr (z0i l,(0,(l.length,(l.length,())))))∨(Adj l∧∃ (R:List Int) (k:Nat),r= .inl (z0i R,(0,(k,(l.length,()))))∧R.length=l.length∧k<l.length)) (fun _ i h ⟨n,x⟩=>by
   obtain ⟨m,hm⟩:=z0d h
   obtain ⟨B,a⟩:=z0d (l:=l) (i:=i - 1) (by omega)
   obtain ⟨z,o⟩:=stp i (by omega)
   have g:(i:Int)<l.length:=by omega
   have A:=x2t n (by omega:i<9223372036854775807)
   have f:(0:Int)≤((i - 1:Nat):Int):=by omega
   have d:((i - 1:Nat):Int)<l.length:=by omega
   by_cases e:m=B
   ·right
    obtain ⟨r,q,R,k,rfl,hR,E⟩:=w7a l.length i l.length n h C l rfl
    have t:(i:Int)≤l.length:=by omega
    have u:(k:Int)≤l.length:=by omega
    have v:(0:Int)≤k:=by omega
    have c:0+k+(l.length - k)≤(z0i R).length:=by rw [z0w,hR]; omega
    refine ⟨.inl (z0i (R.take k++eAu (l.length - k) 0),(0,(k,(l.length,())))),?_, .inr ⟨⟨i,by omega,h,by rw [z0p hm,z0p a]; exact e⟩,_,k,rfl,by simp [hR]; omega,E⟩⟩
    have p:(z0i R).take (0+k)++eAu (l.length - k) [D.int IntKind.i64 0]++(z0i R).drop (0+k+(eAu (l.length - k) [D.int IntKind.i64 0]).length)=z0i (R.take k++eAu (l.length - k) 0):=by
     have:R.length≤k+(l.length - k):=by omega
     simp [z0i,List.map_take,List.map_replicate,eI,this]
    simp only [eAy] at q p c
    simp only [x0h,z0j,z0k,z1n,z6v,z0o,eAa,eAb,eAc,z49,hm,a,g,o,z,A,f,d,e,z0i,t,eDd]
    simp only [z0i] at q p c
    simp only [z0j,z0k,q,u,v,c,z0o,eAa,eAb,eAc,p,eFx,eBk,eGs,eAy,eDd]
    rw [if_pos (by omega)]
   ·left
    refine ⟨(),?_,by omega,fun j y G=>?_⟩
    ·simp only [x0h,z0j,z0k,z0a,z0i,z02,z3j,z0o,eAa,eAb,eAc,z49,hm,a,g,o,z,A,f,d,e]
    ·by_cases w:j=i
     ·subst w; rw [z0p hm,z0p a]; exact e
     ·exact x j y (by omega)) (fun _ ⟨n,x⟩=>by
   refine ⟨.inr (z0i l,(0,(l.length,(l.length,())))),?_, .inl ⟨?_,rfl⟩⟩
   ·have s:¬ (l.length:Int)<l.length:=by omega
    simp only [x0h,z0j,z0k,z0a,z0i,z02,z3j,z0o,eAa,eAb,eAc,s]
   ·rintro ⟨i,o,h,he⟩; exact x i o h he) () 1 (by omega) ⟨eAp _,fun j n F=>by omega⟩
 exact key
theorem w7x (l:List Int) (d:l.length≤1000000):
  ∃ (R:List Int) (k:Nat),v2p std (z0i l,(0,(l.length,(l.length,()))))=some (z0i R,(0,(k,(l.length,()))))∧R.length=l.length∧((¬ Adj l∧R=l∧k=l.length)∨(Adj l∧k<l.length)):=by
 by_cases g:l.length<2
 ·refine ⟨l,l.length,?_,rfl, .inl ⟨?_,rfl,rfl⟩⟩
  ·have a:(l.length:Int)<2:=by omega
   simp only [v2p,z0j,z0k,z0o,eAa,eAb,eAc,a]
  ·rintro ⟨i,j,f,_⟩; omega
 ·have a:¬ (l.length:Int)<2:=by omega
  obtain ⟨r,c,h|h⟩:=w7b l d (by omega)
  ·obtain ⟨b,rfl⟩:=h
   refine ⟨l,l.length,?_,rfl, .inl ⟨b,rfl,rfl⟩⟩
   simp only [v2p,z0j,z0k,z0o,eAa,eAb,eAc,a,c]
  ·obtain ⟨b,R,k,rfl,hR,e⟩:=h
   refine ⟨R,k,?_,hR, .inr ⟨b,e⟩⟩
   simp only [v2p,z0j,z0k,z0o,eAa,eAb,eAc,a,c]
theorem w7y (l:List Int) (a:l.length≤1000000):v86 std (z0i l,())=some (z0i (srt l),()):=by
 unfold v86
 simp only
 have h:y6q (z0i l)=some l:=y9f l
 have b:eAz l.length 1000000=true:=eCi a
 rw [h]
 simp only [b,cond_true]
 rfl
def u8b (l r:List Int):Prop:=(l.Nodup→r=srt l)∧(¬ l.Nodup→r.length<l.length)
theorem x8o {l r:List Int} (h:u8b l r):r.length=l.length↔l.Nodup:=by
 constructor
 ·intro e; exact eDq fun a=>by have:=h.2 a; omega
 ·intro a; rw [h.1 a]; exact (srt_perm l).length_eq
theorem w36 {l R:List Int} {k:Nat} (hR:R.length=(srt l).length) (h:(¬ Adj (srt l)∧R=srt l∧k=(srt l).length)∨(Adj (srt l)∧k<(srt l).length)):u8b l (R.take k):=by
 rcases h with ⟨b,rfl,rfl⟩|⟨b,c⟩
 ·have a:l.Nodup:=(srt_perm l).nodup_iff.1 (x3z (y0y l) b)
  exact ⟨fun _=>by rw [eDf],fun h=>absurd a h⟩
 ·have a:¬ l.Nodup:=fun h=>y40 b ((srt_perm l).nodup_iff.2 h)
  have:=(srt_perm l).length_eq
  exact ⟨fun h=>absurd h a,fun _=>by rw [eCk]; omega⟩
theorem spl (l:List Int):(eAu l.length [D.int IntKind.i64 0]).take 0++z0i l++(eAu l.length [D.int IntKind.i64 0]).drop (0+(z0i l).length)=z0i l:=by
 simp [z0i]
theorem v4t (l:List Int) (g:l.length≤1000000):∃ r,G57 std (z0i l,())=some (z0i r,())∧u8b l r:=by
 have f:=(srt_perm l).length_eq
 obtain ⟨R,k,d,hR,e⟩:=w7x (srt l) (by omega)
 refine ⟨R.take k,?_,w36 hR e⟩
 have b:=w7y l g
 have c:k≤R.length:=by rcases e with h|h<;>omega
 rw [f] at d
 unfold G57
 have j:(0:Int)≤l.length:=by omega
 have i:(l.length:Int)≤1000000:=by omega
 simp only [z0j,z0k,z0o,eAa,eAb,eAc,z0w,j,i,List.length_replicate,eAp,eDd,eAy]
 have a:=spl l
 simp only [z0w,eAy] at a
 simp only [a,b,z0j,z0k,d,z0w,c,eCo]
 simp [z0i,List.map_take]
theorem v2o (l:List Int) (i:l.length≤1000000):∃ r,w7t std (z0i l,())=some (z0i l,(z0i r,()))∧u8b l r:=by
 have g:=(srt_perm l).length_eq
 obtain ⟨R,k,d,hR,e⟩:=w7x (srt l) (by omega)
 refine ⟨R.take k,?_,w36 hR e⟩
 have b:=w7y l i
 have c:k≤R.length:=by rcases e with h|h<;>omega
 rw [g] at d
 unfold w7t
 have m:(0:Int)≤l.length:=by omega
 have j:(l.length:Int)≤1000000:=by omega
 simp only [z0j,z0k,z0o,eAa,eAb,eAc,z0w,m,j,List.length_replicate,eAp,eDd,eAy]
 have a:=spl l
 simp only [z0w,eAy] at a
 have f:(z0i l).take l.length=z0i l:=by rw [←z0w l,eDf]
 simp only [eCo,f,a,b,z0j,z0k,d,z0w,c]
 simp [z0i,List.map_take]
theorem v87 (a b n:Int):u7b std (a,(b,(n,())))=some (a,(b,(decide (n<a∨n>b),()))):=by
 unfold u7b
 by_cases c:n<a
 ·simp only [z0j,z0k,z0o,eAa,eAb,eAc,c,true_or]
 ·simp only [z0j,z0k,z0o,eAa,eAb,eAc,c,false_or]
theorem w7u (a c:Int) (l:List Int) (o:l.length≤1000000):G56 std (a,(c,(z0i l,())))=some (!(l.any fun n=>decide (n<a∨n>c)),()):=by
 unfold G56 u8h u8f
 have key:=z3b (b:=x5i std) l.length (fun i=>(a,(c,(z0i l,((l.length:Int),((i:Int),())))))) (fun i=>decide (l.getD i 0<a∨l.getD i 0>c)) (fun i=> .inl (a,(c,((i:Int),())))) (.inr (a,(c,()))) (fun i f=>by
  obtain ⟨m,hm⟩:=z0d f
  obtain ⟨g,k⟩:=stp i (by omega)
  have d:(i:Int)<l.length:=by omega
  simp only [z0p hm,x5i,z0j,z0k,z0a,z0i,z02,z3j,z8d,ge_iff_le,hm,d,k,g,v87]) (by
  have j:¬ (l.length:Int)<l.length:=by omega
  simp only [x5i,z0j,z0k,z0a,z0i,z02,z3j,j])
 have key:z1a (x5i std) (a,(c,(z0i l,((l.length:Int),((0:Int),())))))=_:=key
 have e:=z6l l 0 fun n=>decide (n<a∨n>c)
 simp only [z0j,z0k,z0w,key]
 cases h:(eAv l.length).find? fun i=>decide (l.getD i 0<a∨l.getD i 0>c) with
 |none=>
  have:((eAv l.length).any fun i=>decide (l.getD i 0<a∨l.getD i 0>c))=false:=by
   rw [eFg]; rw [eFn] at h; exact h
  rw [this] at e
  rw [←e]
  simp
 |some i=>
  have:((eAv l.length).any fun i=>decide (l.getD i 0<a∨l.getD i 0>c))=true:=eBd.2 ⟨i,eCv h,eFj (p:=fun i=>decide (l.getD i 0<a∨l.getD i 0>c)) h⟩
  rw [this] at e
  rw [←e]
  simp
def z9f (k:Int):ByteArray:=if k=1 then eCe #[101,110,116,101,114] else if k=2 then eCe #[98,117,114,110] else if k=3 then eCe #[99,111,109,112,97,114,101] else if k=4 then eCe #[114,101,112,108,97,99,101] else if k=5 then eCe #[111,117,116] else if k=6 then eCe #[99,108,97,105,109] else eCe #[]
def klo (k:Int):Int:=if k=1∨k=2∨k=3 then 1 else 0
def khi (k:Int):Int:=if k=1∨k=6 then 1000000 else if k=2 then 10000 else if k=3 then 100000 else 0
theorem v4u (k:Int):G55 std (k,())=some (z9f k,((z30 k:Int),(klo k,(khi k,())))):=by
 unfold G55 z9f z30 klo khi
 by_cases f:k=1
 ·simp [z0j,z0k,f]
 by_cases e:k=2
 ·simp [z0j,z0k,e]
 by_cases d:k=3
 ·simp [z0j,z0k,d]
 by_cases c:k=4
 ·simp [z0j,z0k,c]
 by_cases b:k=5
 ·simp [z0j,z0k,b]
 by_cases a:k=6
 ·simp [z0j,z0k,a]
 simp [z0j,z0k,f,e,d,c,b,a]
theorem t0t (k:Int):(bif std.strEq (z9f k) (eCe #[]) then bif std.cmp .eql (z30 k:Int) 0 then bif std.cmp .eql (klo k) 0 then bif std.cmp .eql (khi k) 0 then true else false else false else false else false)=decide (z30 k=0):=by
 by_cases a:z30 k=0
 ·have h:z9f k=eCe #[]∧klo k=0∧khi k=0:=by
   unfold z30 at a
   unfold z9f klo khi
   repeat' split at a
   all_goals first|omega|skip
   rename_i l j b
   have i:¬ k=1:=by omega
   have g:¬ k=2:=by omega
   have f:¬ k=3:=by omega
   have d:¬ k=4:=by omega
   have c:¬ k=5:=by omega
   simp [i,g,f,d,c,b]
  rw [h.1,h.2.1,h.2.2,a]
  simp [std,z3z]
 ·have:¬ ((z30 k:Nat):Int)=0:=by omega
  have e:std.cmp .eql (z30 k:Int) 0=false:=by rw [show std.cmp .eql (z30 k:Int) 0=decide ((z30 k:Int)=0) from rfl]; simpa using this
  rw [e]
  simp [a]
theorem w5s {k a:Int} (b:z30 k≠0):w8a k a↔¬ (a<klo k∨a>khi k):=by
 unfold w8a klo khi
 rcases y6y b with ⟨b,_⟩|⟨b,_⟩|⟨b,_⟩
 ·rcases b with rfl|rfl|rfl<;>simp<;>omega
 ·rcases b with rfl|rfl<;>simp<;>omega
 ·subst b; simp
theorem v5q (a b n:Int):(!([n].any fun n=>decide (n<a∨n>b)))=!decide (n<a∨n>b):=by simp
theorem y6r (n:Int):z7h n↔¬ (n<1∨n>1099511627776):=by unfold z7h; omega
theorem u6x (c:Cd) (s:c.t.length≤1000000):G17 std (c.n,(c.k,(z0i c.t,(c.a,()))))=some (z3n c,()):=by
 have f:=w7u 1 1099511627776 [c.n] (by simp)
 have u:=w7u 1 1099511627776 c.t s
 have p:=w7u (klo c.k) (khi c.k) [c.a] (by simp)
 obtain ⟨r,z,A⟩:=v4t c.t s
 have e:=x8o A
 rw [v5q] at f p
 have E:(!decide (c.n<1∨c.n>1099511627776))=decide (z7h c.n):=by rw [eBu]; simp only [eCy,decide_eq_false_iff_not,decide_eq_true_eq]; exact (y6r _).symm
 have C:(!(c.t.any fun n=>decide (n<1∨n>1099511627776)))=decide (¬ ∃ x∈c.t,¬ z7h x):=by
  rw [eBu]
  simp only [eCy,eFg,decide_eq_true_eq]
  constructor
  ·rintro h ⟨x,m,o⟩; exact o ((y6r x).2 (h x m))
  ·intro h x m o; exact h ⟨x,m,fun B=>(y6r x).1 B o⟩
 rw [E] at f
 rw [C] at u
 have y:=t0t c.k
 unfold G17 z3n
 simp only [z0i,eFs,List.map_nil,eI] at f p
 simp only [y3v,x0j,y85,x0a,y84,w0g,eCb,v4u,f]
 by_cases w:z7h c.n
 ·simp only [w,decide_true,cond_true,eAh,if_false,eCb,y,not_true,false_or]
  by_cases l:z30 c.k=0
  ·simp only [l,decide_true,if_true,eCb,Sum.elim_inl]
  ·simp only [l,decide_false,eAh,if_false]
   by_cases j:c.t.length=z30 c.k
   ·have d:std.cmp .neq (std.ofNat (std.len (z0i c.t))) (z30 c.k:Int)=false:=by simp [std,z3z,z0w,j]
    simp only [d,eAh,if_false,u,eCb,j,ne_eq,not_true]
    by_cases v:∃ x∈c.t,¬ z7h x
    ·simp only [v,not_true,decide_false,cond_false,if_true,eCb,Sum.elim_inl]
    ·simp only [v,not_false_eq_true,decide_true,cond_true,eAh,if_false,z,eCb]
     by_cases i:c.t.Nodup
     ·have q:=e.2 i
      have b:std.cmp .neq (std.ofNat (std.len (z0i r))) (z30 c.k:Int)=false:=by simp [std,z3z,z0w,q,j]
      simp only [b,eAh,if_false,p,eCb,i,not_true]
      by_cases g:w8a c.k c.a
      ·have:=(w5s l).1 g
       simp only [this,g,decide_false,eCn,cond_true,eAh,if_false,Sum.elim_inr,eCb,not_true]
      ·have:c.a<klo c.k∨c.a>khi c.k:=eDq fun h=>g ((w5s l).2 h)
       simp only [this,g,decide_true,eCp,cond_false,if_true,Sum.elim_inl,eCb,not_false_eq_true]
     ·have q:r.length≠c.t.length:=fun h=>i (e.1 h)
      have b:std.cmp .neq (std.ofNat (std.len (z0i r))) (z30 c.k:Int)=true:=by simp [std,z3z,z0w]; omega
      simp only [b,if_true,Sum.elim_inl,eCb,i,not_false_eq_true]
   ·have d:std.cmp .neq (std.ofNat (std.len (z0i c.t))) (z30 c.k:Int)=true:=by simp [std,z3z,z0w]; omega
    simp only [d,if_true,eCb,Sum.elim_inl,j,ne_eq,not_false_eq_true]
 ·simp only [w,decide_false,cond_false,if_true,eCb,Sum.elim_inl,not_false_eq_true,true_or]
theorem v2f (l:List Cd) (t:l.length≤60) (s:Few l):
  z1a (x7t std) ([],(z0a fl l,(z0a fl l,((l.length:Int),((0:Int),())))))=some (match l.find? fun c=>!decide (z3n c=0) with|some c=> .inl (z3n c,())|none=> .inr (z0i (l.map (·.n)),(z0a fl l,()))):=by
 have key:=z3b (b:=x7t std) l.length (fun i=>(z0i ((l.take i).map (·.n)),(z0a fl l,(z0a fl l,((l.length:Int),((i:Int),())))))) (fun i=>!decide (z3n (l.getD i default)=0)) (fun i=> .inl (z3n (l.getD i default),())) (.inr (z0i (l.map (·.n)),(z0a fl l,()))) (fun i r=>by
  obtain ⟨m,hm⟩:=z0d r
  obtain ⟨k,o⟩:=stp i (by omega)
  have f:(i:Int)<l.length:=by omega
  have d:=u6x m (s m (eAn hm))
  have g:l.take (i+1)=l.take i++[m]:=by rw [eGb,hm]; rfl
  have a:(z0i ((l.take i).map (·.n))).length=i:=by rw [z0w,eBp,eCk]; omega
  simp only [z0i] at d
  by_cases e:z3n m=0
  ·simp only [z0p hm,x7t,y3v,x0j,y85,v5z,x0a,y84,w0g,z7z,z4s,x05,y59,y3o,y3p,x07,y58,z3y,z88,w3j,x58,w3i,rdD,y57,z8d,w0c,z0a,z0i,z02,z3j,z0o,eAa,eAb,eAc,eAj,eBo,eCb,eCd,eFf,hm,f,o,k,d,e,decide_true,if_true,if_false,eAh,eCc]
   simp only [z0i] at a
   have p:List.map eI (List.map (fun x=>x.n) (List.take i l))++[[D.int IntKind.i64 m.n]]=List.map eI (List.map (fun x=>x.n) (List.take (i+1) l)):=by
    rw [g]; simp [eI]
   have u:i+1≤y28:=by unfold y28; omega
   generalize List.map eI (List.map (fun x=>x.n) (List.take i l))=L at a p⊢
   have j:i≤999999:=by omega
   simp [a,p,j,y28,x06,eBz]
   omega
  ·simp only [z0p hm,x7t,y3v,x0j,y85,v5z,x0a,y84,w0g,z7z,z4s,x05,y59,y3o,y3p,x07,y58,z3y,z88,w3j,x58,w3i,rdD,y57,z8d,w0c,z0a,z0i,z02,z3j,z0o,eAa,eAb,eAc,eAj,eBo,eCb,eCd,eFf,hm,f,o,k,d,e,decide_true,decide_false,eCn,if_true]) (by
  have q:¬ (l.length:Int)<l.length:=by omega
  rw [eDf]
  simp only [x7t,z0j,z0k,z0a,z0i,z02,z3j,q])
 have key:z1a (x7t std) ([],(z0a fl l,(z0a fl l,((l.length:Int),((0:Int),())))))=_:=key
 rw [key]
 have e:=y5f l default fun c=>!decide (z3n c=0)
 cases h:(eAv l.length).find? fun i=>!decide (z3n (l.getD i default)=0) with
 |none=>rw [h] at e; simp only [Option.map_none] at e; rw [←e]
 |some i=>rw [h] at e; simp only [eBo] at e; rw [←e]
theorem x5p (l:List Cd) (k:Few l):G19 std (z0a fl l,())=some (z13 l,()):=by
 unfold G19 z13
 by_cases f:60<l.length
 ·have a:(60:Int)<l.length:=by omega
  simp only [z0j,z0k,z0o,eAa,eAb,eAc,z0r,f,a]
 ·have a:¬ (60:Int)<l.length:=by omega
  have d:=v2f (fl:=fl) l (by omega) k
  cases i:l.find? fun c=>!decide (z3n c=0) with
  |some c=>
   rw [i] at d
   simp only [z0j,z0k,z0o,eAa,eAb,eAc,z0r,f,a,d]
  |none=>
   rw [i] at d
   obtain ⟨r,g,j⟩:=v2o (l.map (·.n)) (by simp; omega)
   have b:=x8o j
   rw [eBp] at b
   by_cases e:(l.map (·.n)).Nodup
   ·have:=b.2 e
    simp only [z0j,z0k,z0o,eAa,eAb,eAc,z0r,z0w,f,a,d,g,e,this]
   ·have:¬ r.length=l.length:=fun h=>e (b.1 h)
    have:¬ (r.length:Int)=l.length:=by omega
    simp only [z0j,z0k,z0o,eAa,eAb,eAc,z0r,z0w,f,a,d,g,e,this]
theorem u6i (a b:List Cd) (d:Few a) (c:Few b):G78 std (z0a fl a,(z0a fl' b,()))=some (y2h a b,()):=by
 unfold G78 y2h
 by_cases h:z13 a=0
 ·simp only [z0j,z0k,z0o,eAa,eAb,eAc,x5p a d,x5p b c,h]; simp
 ·simp only [z0j,z0k,z0o,eAa,eAb,eAc,x5p a d,x5p b c,h]; simp [h]
theorem u6l (l:List Int) (x:Int) (n:l.length≤1000000):G71 std (z0i l,(x,()))=some (l.contains x,()):=by
 have key:=z3b (b:=x0f std) l.length (fun i=>(z0i l,(x,((l.length:Int),((i:Int),()))))) (fun i=>decide (x=l.getD i default)) (fun i=> .inl ((i:Int),())) (.inr ()) (fun i j=>by
  obtain ⟨y,d⟩:=z0d j
  obtain ⟨f,g⟩:=stp i (by omega)
  have a:(i:Int)<l.length:=by omega
  by_cases e:x=y
  ·subst e
   simp only [z0p d,x0f,z0j,z0k,z0i,z1n,z6v,z0o,eAa,eAb,eAc,d,a,g,f,eAj,eBo]
  ·simp only [z0p d,x0f,z0j,z0k,z0i,z1n,z6v,z0o,eAa,eAb,eAc,d,a,g,f,e,eAj,eBo]) (by
  have h:¬ (l.length:Int)<l.length:=by omega
  simp only [x0f,z0j,z0k,h,if_false])
 have key:z1a (x0f std) (z0i l,(x,((l.length:Int),((0:Int),()))))=_:=key
 unfold G71 u8g
 have c:(z0i l).length=l.length:=by simp [z0i]
 have e:=y5f l default fun y=>decide (x=y)
 have k:l.contains x=(l.find? fun y=>decide (x=y)).isSome:=by
  rw [eBu,List.find?_isSome]; simp
 rw [k, ←e]
 simp only [z0j,z0k,c,key]
 cases m:(eAv l.length).find? fun i=>decide (x=l.getD i default) with
 |none=>simp
 |some i=>simp
theorem x7l {l:List Cd} (h:(l.map (·.n)).Nodup):z5m [l]=l:=by
 have:∀ (q p:List Cd),((p++q).map (·.n)).Nodup→q.foldl y8q p=p++q:=by
  intro q
  induction q with
  |nil=>intro p _; simp
  |cons c q f=>
   intro p a
   have b:(p.any fun d=>decide (d.n=c.n))=false:=by
    rw [eFg]
    intro d g
    simp only [decide_eq_true_eq]
    rw [List.map_append,List.nodup_append] at a
    exact fun e=>a.2.2 d.n (eGt g) c.n (by simp) e
   have e:p++c::q=(p++[c])++q:=by simp
   rw [eDo]
   have:y8q p c=p++[c]:=by unfold y8q; rw [b]; rfl
   rw [this,e]
   exact f _ (by rw [←e]; exact a)
 exact this l [] (by simpa using h)
theorem z03 {l:List Cd} (h:z13 l=0):l.length≤60∧(l.map (·.n)).Nodup∧l.Nodup∧(∀ c∈l,z3n c=0)∧(∀ c∈l,1≤c.t.length∧c.t.length≤3∧c.t.Nodup):=by
 obtain ⟨m,i,g⟩:=x7g.1 h
 refine ⟨m,g,z3k g,i,fun c j=>?_⟩
 obtain ⟨a,b,o,d,e,f⟩:=x7m.1 (i c j)
 refine ⟨?_,?_,e⟩
 ·omega
 ·have:z30 c.k≤3:=by unfold z30; split<;>(try split)<;>(try split)<;>omega
  omega
def eBl (b:Bool):List D:=[.bool b]
def z1z (l:List Bool):List (List D):=l.map eBl
theorem z3e (b:Bool):z2v [CK.bool] (eBl b)=true:=rfl
theorem z9u (b:Bool):dB ((eBl b)[0]?.getD D.nilp)=b:=rfl
theorem u0b {l:List Bool} {i:Nat} {b:Bool} (h:l[i]?=some b):(l.map eBl)[i]?=some (eBl b):=by
 rw [eAj,h]; rfl
def eBB (r:List Bool):List D:=[.list false 1 (z1z r)]
def z2y (M:List (List Bool)):List (List D):=M.map eBB
theorem z7f (r:List Bool):z2v [CK.list 1] (eBB r)=true:=rfl
theorem y7m (r:List Bool):dL ((eBB r)[0]?.getD D.nilp)=z1z r:=rfl
def z3w (l:List Cd) (B:Cd→Cd→Bool):List (List Bool):=l.map fun d=>l.map fun c=>B d c
theorem w87 {l:List Cd} {B:Cd→Cd→Bool} {k:Nat} {d:Cd} (h:l[k]?=some d):(z2y (z3w l B))[k]?=some (eBB (l.map fun c=>B d c)):=by
 unfold z2y z3w
 rw [eAj,eAj,h]; rfl
def v88 (l rem:List Cd) (a:List Bool):Prop:=a.length=l.length∧∀ (k:Nat) (d:Cd),l[k]?=some d→a[k]?=some (!decide (d∈rem))
theorem x9h {α:Type} (q:α→Bool):∀ (l:List α) (b:Bool),l.foldl (fun b p=>b&&q p) b=(b&&l.all q)
 |[],b=>by simp
 |x::l,b=>by rw [eDo,x9h q l,List.all_cons,Bool.and_assoc]
theorem v0e {B:Cd→Cd→Bool} {l rem:List Cd} (e:∀ x∈rem,x∈l) (c:Cd):(l.all fun d=>!B d c||!decide (d∈rem))=z4c B rem c:=by
 rw [eBu,z5c,eBm]
 constructor
 ·intro h d a
  have:=h d (e d a)
  simpa [a] using this
 ·intro h d a
  by_cases b:d∈rem
  ·simp [h d b]
  ·simp [b]
theorem v1v (g:List Bool) (O:List (List D)) (l rem:List Cd) (B:Cd→Cd→Bool) (x2f:Int) (i:Nat) {c:Cd} (q:l[i]?=some c) (x:v88 l rem g) (y:l.length≤1000) (b:Bool):
  z1a (x7q std) (z1z g,(O,(z0a fl l,(z2y (z3w l B),(x2f,((i:Int),(b,((0:Int),()))))))))=some (z1z g,(O,(z0a fl l,(z2y (z3w l B),(x2f,((i:Int),(b&&l.all fun d=>!B d c||!decide (d∈rem),()))))))):=by
 have w:i<l.length:=(eAe.1 q).1
 have u:(0:Int)≤(i:Int):=by omega
 have t:(i:Int)<(l.length:Int):=by omega
 obtain ⟨e,o⟩:=x
 have key:=z8v (b:=x7q std) l (fun (b:Bool) k=>(z1z g,(O,(z0a fl l,(z2y (z3w l B),(x2f,((i:Int),(b,((k:Int),()))))))))) (fun b d=>b&&(!B d c||!decide (d∈rem))) (fun _ _=>True) (fun b=>(z1z g,(O,(z0a fl l,(z2y (z3w l B),(x2f,((i:Int),(b,()))))))))
  (fun b k d n _=>by
   have v:k<l.length:=(eAe.1 n).1
   obtain ⟨j,r⟩:=stp k (by omega)
   have a:(k:Int)<l.length:=by omega
   have f:=w87 (B:=B) n
   have p:=u0b (o k d n)
   refine ⟨?_,trivial⟩
   cases b with
   |false=>simp only [x7q,z0j,z0k,z0a,z0i,z02,z3j,z0a,z1z,z0o,eAa,eAb,eAc,a,r,j,e,eDn,eAh,if_false]
   |true=>
    cases s:B d c with
    |false=>simp only [x7q,z0j,z0k,z0a,z0i,z02,z3j,z0a,z1z,z3e,z9u,z7f,y7m,z6i,z0o,eAa,eAb,eAc,a,r,u,t,j,e,f,q,s,Bool.true_and,eCn,Bool.true_or,eAh,if_false,if_true]
    |true=>simp only [x7q,z0j,z0k,z0a,z0i,z02,z3j,z0a,z1z,z3e,z9u,z7f,y7m,z6i,z0o,eAa,eAb,eAc,a,r,u,t,j,e,f,p,q,s,Bool.true_and,eCp,Bool.false_or,eAh,if_false,if_true])
  (fun b _=>by
   have m:¬ (l.length:Int)<l.length:=by omega
   simp only [x7q,z0j,z0k,z0r,m,if_false,z0o,eAa,eAb,eAc]) b trivial
 have h:=key.1
 rw [x9h] at h
 exact h
theorem v1w (y:List Bool) (O:List (List D)) (l rem:List Cd) {B:Cd→Cd→Bool} (L:v88 l rem y) (R:l.length≤1000) (T:Inj l) (q:∀ x∈rem,x∈l) {P:Cd} (U:x2f B rem=some P):
  ∃ k:Nat,z1a (x2g std) (z1z y,(O,(z0a fl l,(z2y (z3w l B),((-1:Int),((0:Int),()))))))=some (z1z y,(O,(z0a fl l,(z2y (z3w l B),((k:Int),())))))∧l[k]?=some P:=by
 have key:=z3c (b:=x2g std) l.length (fun (b:Int) j=>(z1z y,(O,(z0a fl l,(z2y (z3w l B),(b,((j:Int),())))))))
  (fun b j=>w73 B l rem b j) (fun r=>∃ k:Nat,r=(z1z y,(O,(z0a fl l,(z2y (z3w l B),((k:Int),())))))∧l[k]?=some P)
  (fun b j S v=> .inl (by
   obtain ⟨d,a⟩:=z0d S
   obtain ⟨z,H⟩:=stp j (by omega)
   have f:(j:Int)<l.length:=by omega
   have m:=u0b (L.2 j d a)
   have g:=L.1
   have p:=v1v (fl:=fl) y O l rem B b j a L R (decide (d∈rem))
   rw [v0e q] at p
   have o:=y3q (fl:=fl) a
   by_cases hm:d∈rem
   ·by_cases E:z4c B rem d=true
    ·simp only [hm,E,decide_true,eCc,z1z,z0a] at p
     rcases v with ⟨rfl,v⟩|⟨k,c,rfl,I,Q,M,N,F⟩
     ·refine ⟨(j:Int),?_, .inr ⟨j,d,rfl,by omega,a,hm,E,fun i e u he w G=>?_⟩⟩
      ·simp only [x2g,z0j,z0k,z0a,z0i,z02,z3j,z1z,z0a,z3e,z9u,z6i,z0o,eAa,eAb,eAc,f,H,z,m,g,hm,p,decide_true,eCp,eAh,if_false,if_true]
      ·rcases eCu i j with h|h
       ·exact (v i e h he w G).elim
       ·have:i=j:=by omega
        subst this
        rw [a] at he; cases he; exact eDd _
     ·have t:=y3q (fl:=fl) Q
      have C:¬ (k:Int)<0:=by omega
      have A:(0:Int)≤(k:Int):=by omega
      by_cases s:d.n<c.n
      ·refine ⟨(j:Int),?_, .inr ⟨j,d,rfl,by omega,a,hm,E,fun i e u he w G=>?_⟩⟩
       ·simp only [x2g,z0j,z0k,z0a,z0i,z02,z3j,z1z,z0a,z3e,z9u,z6i,z0o,eAa,eAb,eAc,f,H,z,m,g,hm,p,o,t,C,A,s,decide_true,eCp,eAh,if_false,if_true]
       ·rcases eCu i j with h|h
        ·have:=F i e h he w G; omega
        ·have:i=j:=by omega
         subst this
         rw [a] at he; cases he; exact eDd _
      ·refine ⟨(k:Int),?_, .inr ⟨k,c,rfl,by omega,Q,M,N,fun i e u he w G=>?_⟩⟩
       ·simp only [x2g,z0j,z0k,z0a,z0i,z02,z3j,z1z,z0a,z3e,z9u,z6i,z0o,eAa,eAb,eAc,f,H,z,m,g,hm,p,o,t,C,A,s,decide_true,eCp,eAh,if_false,if_true]
       ·rcases eCu i j with h|h
        ·exact F i e h he w G
        ·have:i=j:=by omega
         subst this
         rw [a] at he; cases he; omega
    ·have K:z4c B rem d=false:=by simpa using E
     simp only [hm,K,decide_true,eGq,z1z,z0a] at p
     refine ⟨b,?_,y06 v a fun h=>E h.2⟩
     simp only [x2g,z0j,z0k,z0a,z0i,z02,z3j,z1z,z0a,z3e,z9u,z6i,z0o,eAa,eAb,eAc,f,H,z,m,g,hm,p,decide_true,eCp,eAh,if_false,if_true]
   ·simp only [hm,decide_false,eDn,z1z,z0a] at p
    refine ⟨b,?_,y06 v a fun h=>hm h.1⟩
    simp only [x2g,z0j,z0k,z0a,z0i,z02,z3j,z1z,z0a,z3e,z9u,z6i,z0o,eAa,eAb,eAc,f,H,z,m,g,hm,p,decide_false,eCn,eAh,if_false,if_true]))
  (fun b v=>by
   obtain ⟨k,rfl,I⟩:=x5f T q v U
   have J:¬ (l.length:Int)<l.length:=by omega
   exact ⟨_,by simp only [x2g,z0j,z0k,z0r,J,if_false,z0o,eAa,eAb,eAc],k,rfl,I⟩) (-1) 0 (eBb _) (.inl ⟨rfl,fun i d u=>by omega⟩)
 obtain ⟨r,w,k,rfl,I⟩:=key
 exact ⟨k,w,I⟩
structure v8v (B:Cd→Cd→Bool) (g:List Cd) (t:List Cd×List Cd×List Bool) (i:Nat):Prop where
 len:t.2.1.length+i=g.length
 olen:t.1.length=i
 sub:∀ x∈t.2.1,x∈g
 nd:t.2.1.Nodup
 done:v88 g t.2.1 t.2.2
 res:t.1++lst B t.2.1.length t.2.1=lst B g.length g
theorem w1f {B:Cd→Cd→Bool} {g:List Cd} (f:(g.map (·.n)).Nodup) {t:List Cd×List Cd×List Bool} {i:Nat} (h:v8v B g t i) {c:Cd} (p:x2f B t.2.1=some c) {k:Nat} (l:g[k]?=some c):
  v8v B g (t.1++[c],rm c t.2.1,t.2.2.set k true) (i+1):=by
 have s:=z2f f
 have u:=((x2e B (s.sub h.sub)).1 p).1
 have b:=y6h h.nd u
 have r:k<g.length:=(eAe.1 l).1
 have m:=h.done.1
 refine ⟨?_,by simp [h.olen],fun x q=>h.sub x (y0f.1 q).1,h.nd.filter _,⟨by simp [m],fun j d a=>?_⟩,?_⟩
 ·have:=h.len; simp only; omega
 ·simp only
  by_cases e:k=j
  ·subst e
   rw [l] at a; cases a
   rw [eCr,if_pos rfl,if_pos (by omega)]
   simp [y0f]
  ·rw [eFa e,h.done.2 j d a]
   have o:d≠c:=by
    rintro rfl
    exact e ((z74 f l).symm.trans (z74 f a))
   simp [y0f,o]
 ·simp only
  rw [←h.res, ←b]
  conv=>rhs; rw [lst]
  rw [p]
  simp only [eDr,List.singleton_append,Nat.add_sub_cancel]
theorem u6n (l:List Cd) {B:Cd→Cd→Bool} (M:l.length≤1000) (u:(l.map (·.n)).Nodup) (o:t40 B l):
  G69 std (z0a fl l,(z2y (z3w l B),()))=some (z0a fl (lst B l.length l),()):=by
 have N:=z2f u
 have key:=z3c (b:=w6v std) l.length (fun (t:List Cd×List Cd×List Bool) (i:Nat)=>(z1z t.2.2,(z0a fl t.1,(z0a fl l,(z2y (z3w l B),())))))
  (v8v B l) (fun r=>r=(z0a fl (lst B l.length l),()))
  (fun t i L a=> .inl (by
   have s:t.2.1≠[]:=by intro e; have:=a.len; rw [e] at this; simp at this; omega
   obtain ⟨c,H⟩:=o t.2.1 a.sub s
   obtain ⟨k,I,d⟩:=v1w (fl:=fl) t.2.2 (z0a fl t.1) l t.2.1 a.done M N a.sub H
   have m:k<l.length:=(eAe.1 d).1
   refine ⟨(t.1++[c],rm c t.2.1,t.2.2.set k true),?_,w1f u a H d⟩
   have f:=y3q (fl:=fl) d
   have C:std.rdF (l.map (eC fl)) k 2 1=fl c.t:=u0f d
   have y:(0:Int)≤(k:Int):=by omega
   have w:(k:Int)<(l.length:Int):=by omega
   have G:=a.olen
   have z:=a.done.1
   have A:=u0b (a.done.2 k c d)
   have j:(i:Int)<(l.length:Int):=by omega
   have p:i+1≤1000000:=by omega
   have F:(t.1.map (eC fl)).length=i:=by simp [G]
   have J:(t.1.map (eC fl)).take i=t.1.map (eC fl):=by rw [←F,eDf]
   have K:(t.2.2.map eBl).set k [D.bool true]=(t.2.2.set k true).map eBl:=by
    rw [show ([D.bool true])=eBl true from rfl, ←List.map_set]
   simp only [z0a,z0i,z1z] at I
   simp only [w6v,z0j,z0k,z0a,z0i,z02,z3j,z0a,z0i,z1z,z3e,z0o,eAa,eAb,eAc,G,j,I,f,C,z,A,y,w,K,p,F,J,eAy,eAp,eCo,eFz]
   simp [eC,z0i,p,F,J]))
  (fun t a=>⟨(z0a fl t.1,()),by
   have q:¬ (l.length:Int)<l.length:=by omega
   simp only [w6v,z0j,z0k,z0r,a.olen,q,if_false,z0o,eAa,eAb,eAc],by
   have O:t.2.1=[]:=eBw.1 (by have:=a.len; omega)
   have:=a.res
   rw [O] at this
   simp only [eDw,lst,eDx] at this
   simp only [this]⟩) ([],l,eAu l.length false) 0 (eBb _) ⟨by simp,rfl,fun x h=>h,z3k u,⟨by simp,fun k c d=>by
    have m:=(eAe.1 d).1
    rw [eCs,if_pos m]
    simp [eAn d]⟩,rfl⟩
 obtain ⟨r,E,rfl⟩:=key
 have p:(0:Int)≤(l.length:Int):=by omega
 have P:(l.length:Int)≤1000000:=by omega
 have g:eAu l.length [D.bool false]=z1z (eAu l.length false):=by simp [z1z,eBl]
 have v:(z0a fl l).length=l.length:=z0r l
 have E:z1a (w6v std) (z1z (eAu l.length false),([],(z0a fl l,(z2y (z3w l B),()))))=_:=E
 unfold G69
 simp only [z0j,z0k,z0o,eAa,eAb,eAc,v,p,P,eDd,g,E,List.length_replicate,eAp,if_true]
 simp [z1z]
end Go.Am
end
section
namespace Go.Am
open D12
noncomputable abbrev PZ:Program:=PG
noncomputable def EZ:Env:=autoEnvE [] PZ
theorem hEZ:EnvOk PZ EZ:=autoEnvE_ok follows_mixed
theorem hTZ:y1d PZ EZ.T:=hEZ.ti
def gZ:Nat→Option (List D):=fun _=>none
theorem t1j:GOk PZ gZ:=fun _ _ h=>by cases h
def u7l:TI:=⟨1,24,false,[.list true 0 []], .slc 98 1 24 false [.list true 0 []],none⟩
def t43:TI:=⟨1,24,false,[.list true 0 []], .slc 4 1 1 false [.bool false],none⟩
def ti4:TI:=⟨1,1,false,[.bool false], .bool,some [.b]⟩
theorem x71:EZ.T 96=some u7l:=by kernel_rfl
theorem w29:EZ.T 98=some t43:=by kernel_rfl
theorem v9v:EZ.T 4=some ti4:=by kernel_rfl
noncomputable def cdZ (f:Nat) (pos:List Bool):Code:=(z05 PZ f pos).getD .skip
noncomputable def y2d (f:Nat) (pos:List Bool):Array Oper:=
 match cdZ f pos with
 | .region _ ops _=>ops
 |_=>#[]
theorem y1c {f:Nat} {p:List Bool} {i:Nat} {dst:Option Tmp} {op:Op} (h:((y2d f p)[i]?.map fun o=>(o.dst,o.op,o.guard))=some (dst,op,none)):∃ o,(y2d f p)[i]?=some o∧o.dst=dst∧o.op=op∧o.guard=none:=by
 cases a:(y2d f p)[i]? with
 |none=>rw [a] at h; cases h
 |some o=>
  rw [a] at h
  simp only [eBo,Option.some.injEq,Prod.mk.injEq] at h
  exact ⟨o,rfl,h.1,h.2.1,h.2.2⟩
theorem osZ {ops:Array Oper} {i:Nat} {rest:List Nat} {s:AS} {Q:AS→Prop} {o:Oper} {dst:Option Tmp} {op:Op} (d:ops[i]?=some o∧o.dst=dst∧o.op=op∧o.guard=none)
  {q:Bool} {r:List D} {ra:List AV} {res:Res} (a:(z1b std EZ.T s.env s.heap op).ok q r ra) (b:z0t std EZ.T gZ s.env s.heap s.heap.length q r ra op=some res) (f:res.c=true) (e:z3i s.nt dst=true)
  (h:y3d PZ 0 ops rest (z4p s dst res.v res.u) Q):y3d PZ 0 ops (i::rest) s Q:=by
 obtain ⟨g,rfl,rfl,hg⟩:=d
 exact x3w hTZ t1j g (by rw [hg]; rfl) (eBb _) a b f e h
theorem y1b {f:Nat} {c:Code} {pos:List Bool} {b:SS} {e:AX} {a:SS} (d:z05 PZ f pos=some c) (h:sym opt std EZ (u8w opt) 20 (AX×SS) 0 f pos c b (fun e s=>some (e,s))=some (e,a)):
  z5p PZ 0 c b.s (fun k g=>k=e∧g=a.s):=by
 obtain ⟨m,l,_,j,i⟩:=x73 hEZ v5o 20 (AX×SS) 0 f pos c b _ _ d (eBb _) h
 cases i; exact j
noncomputable abbrev y4h (f nt:Nat) (pos:List Bool) (env:List (Nat×AV)) (h:List AO):Option (AX×SS):=sym opt std EZ (u8w opt) 20 (AX×SS) 0 f pos (cdZ f pos) ⟨⟨env,h,nt⟩,[]⟩ fun e s=>some (e,s)
theorem z4j {env' env:List (Nat×AV)} (h:∀ x∈env',z0z env x.1=x.2):w2q env' env:=by
 intro t
 induction env' with
 |nil=>exact .inl rfl
 |cons x r a=>
  obtain ⟨k,v⟩:=x
  simp only [z0z]
  cases c:eAk k t with
  |true=>
   have:=eAg c
   subst this
   exact .inr (h (k,v) (eBv ..)).symm
  |false=>exact a fun x b=>h x (eCq _ b)
theorem y6k {h:List AO} {k:Nat} (a:h.length=k) (o:AO):(z04 h k o).length=k+1:=by
 subst a
 have b:=z10 h h.length o
 have:(z04 h h.length o).length=h.length+1:=by rw [x1g]; simp
 exact this
def z9c (n i:Nat):List (List AV):=(eAv i).map fun j=>[AV.slice (3*j) 1 0 n (some n)]
theorem x3n (n i:Nat):(z9c n i).length=i:=by simp [z9c]
theorem w04 (n i:Nat):z9c n (i+1)=z9c n i++[[AV.slice (3*i) 1 0 n (some n)]]:=by simp [z9c,List.range_succ]
def w08 (i:Nat):AV:=if i=0 then .d (.list true 0 []) else .slice (3*i - 1) 1 0 i none
def hpT (n:Nat):Nat→List AO
 |0=>[]
 |i+1=>z08 (z08 (z08 (hpT n i) [(3*i, .row (eAu n [.bool false]))]) [(3*i+1, .arow [[.slice (3*i) 1 0 n (some n)]])]) (if i=0 then [(3*i+2, .arow (z9c n (i+1)))] else [(3*i - 1, .dead),(3*i+2, .arow (z9c n (i+1)))])
structure FamT (h:List AO) (n i:Nat):Prop where
 len:h.length=3*i
 arr:0<i→z0e h (3*i - 1)= .arow (z9c n i)
 row:∀ j,j<i→z0e h (3*j)= .row (eAu n [.bool false])
theorem u2l (n:Nat):∀ i,FamT (hpT n i) n i
 |0=>⟨rfl,fun h=>by omega,fun j h=>by omega⟩
 |i+1=>by
  have g:=u2l n i
  have o:=g.len
  have m:=y6k o (.row (eAu n [.bool false]))
  have f:=y6k m (.arow [[.slice (3*i) 1 0 n (some n)]])
  have c:∀ j,j≠3*i→z0e (z04 (hpT n i) (3*i) (.row (eAu n [.bool false]))) j=z0e (hpT n i) j:=fun j d=>z0c _ _ _ _ (eDa d)
  have b:∀ j,j≠3*i+1→z0e (z04 (z04 (hpT n i) (3*i) (.row (eAu n [.bool false]))) (3*i+1) (.arow [[.slice (3*i) 1 0 n (some n)]])) j=z0e (z04 (hpT n i) (3*i) (.row (eAu n [.bool false]))) j:=fun j d=>z0c _ _ _ _ (eDa d)
  have a:z0e (z04 (hpT n i) (3*i) (.row (eAu n [.bool false]))) (3*i)= .row (eAu n [.bool false]):=z0g _ _ _
  simp only [hpT,z08]
  generalize z04 (z04 (hpT n i) (3*i) (.row (eAu n [.bool false]))) (3*i+1) (.arow [[.slice (3*i) 1 0 n (some n)]])=p at*
  generalize z04 (hpT n i) (3*i) (.row (eAu n [.bool false]))=q at*
  by_cases k:i=0
  ·subst k
   simp only [if_true,z08]
   refine ⟨by rw [y6k f],fun _=>?_,fun j d=>?_⟩
   ·show z0e _ 2=_; exact z0g _ _ _
   ·have:j=0:=by omega
    subst this
    rw [z0c _ _ _ _ (by omega),b _ (by omega)]; exact a
  ·rw [if_neg k]
   simp only [z08]
   have l:(z04 p (3*i - 1) .dead).length=3*i+1+1:=by rw [z2t _ _ _ (by omega)]; exact f
   refine ⟨by rw [y6k l]; omega,fun _=>?_,fun j d=>?_⟩
   ·rw [show 3*(i+1) - 1=3*i+2 by omega]; exact z0g _ _ _
   ·rw [z0c _ _ _ _ (by omega),z0c _ _ _ _ (by omega),b _ (by omega)]
    by_cases e:j=i
    ·subst e; exact a
    ·rw [c _ (by omega)]; exact g.row j (by omega)
def mkT (n m i:Nat):List (Nat×AV):=[(0, .d (.int .i64 n)),(3,w08 m),(4, .d (.int .i64 i))]
def pT:List Bool:=[false,true,false,true,true]
def pTB:List Bool:=false::pT
def pT5:List Bool:=[false,false,true]++pTB
theorem mkSl {env:List (Nat×AV)} {h:List AO} {new a n:Nat} (b:z0z env a= .d (.int .i64 (n:Int))):
  z0t std EZ.T gZ env h new false [] [] (.makeSlice 98 (.tmp a) (.tmp a))=some ⟨std.and (std.cmp .geq (n:Int) 0) (std.and (std.cmp .leq (n:Int) n) (std.cmp .leq (n:Int) 1000000)), .slice new 1 0 n (some n),[(new, .row (eAu n [.bool false]))]⟩:=by
 simp only [z0t,w29,z0m,b]
 rfl
theorem litT {env:List (Nat×AV)} {h:List AO} {new c x n:Nat} (a:z0z env c= .slice x 1 0 n (some n)):
  z0t std EZ.T gZ env h new false [] [] (.buildSlice 96 1 #[(0, .tmp c)])=some ⟨true, .slice new 1 0 1 (some 1),[(new, .arow [[.slice x 1 0 n (some n)]])]⟩:=by
 simp only [z0t,x71]
 show z29 u7l new 1 [(0,z0z env c)] []=_
 rw [a]; rfl
theorem w8j {env:List (Nat×AV)} {h:List AO} {a c:Nat} (b:z0z env a= .d (.list true 0 [])):(z1b std EZ.T env h (.call ⟨.builtin .append,#[.tmp a, .tmp c],#[96,96]⟩)).ok true [] []:=by
 show (match [z0z env a,z0z env c] with|[s,x]=>w24 (z3x std s x)|_=> .none).ok true [] []
 rw [b]; rfl
theorem w8i {env:List (Nat×AV)} {h:List AO} {a c id l:Nat} (b:z0z env a= .slice id 1 0 l none):(z1b std EZ.T env h (.call ⟨.builtin .append,#[.tmp a, .tmp c],#[96,96]⟩)).ok false [] []:=by
 show (match [z0z env a,z0z env c] with|[s,x]=>w24 (z3x std s x)|_=> .none).ok false [] []
 rw [b]; exact trivial
theorem v8o {env:List (Nat×AV)} {h:List AO} {new a c lit x n:Nat} (f:z0z env a= .d (.list true 0 [])) (e:z0z env c= .slice lit 1 0 1 (some 1)) (b:z0e h lit= .arow [[.slice x 1 0 n (some n)]]):
  z0t std EZ.T gZ env h new true [] [] (.call ⟨.builtin .append,#[.tmp a, .tmp c],#[96,96]⟩)=some ⟨true, .slice new 1 0 1 none,[(new, .arow [[.slice x 1 0 n (some n)]])]⟩:=by
 show z1q std EZ.T h new true [] .append [96,96] [z0z env a,z0z env c]=_
 rw [f,e]
 simp only [z1q,x71,u7l,z2r,z2s,z14,z3d,b]
 rfl
theorem v8n {env:List (Nat×AV)} {h:List AO} {new a c lit id x n m:Nat} {E:List (List AV)} (e:z0z env a= .slice id 1 0 m none) (d:z0z env c= .slice lit 1 0 1 (some 1)) (b:z0e h lit= .arow [[.slice x 1 0 n (some n)]]) (hid:z0e h id= .arow E) (hE:E.length=m) (j:m≤100000):
  z0t std EZ.T gZ env h new false [] [] (.call ⟨.builtin .append,#[.tmp a, .tmp c],#[96,96]⟩)=some ⟨true, .slice new 1 0 (m+1) none,[(id, .dead),(new, .arow (E++[[.slice x 1 0 n (some n)]]))]⟩:=by
 show z1q std EZ.T h new false [] .append [96,96] [z0z env a,z0z env c]=_
 rw [e,d]
 have i:std.leN (std.add 0 m) E.length=true:=by
  show eAz (0+m) E.length=true
  exact eCi (by omega)
 have g:std.leN (std.add m 1) y28=true:=by
  show eAz (m+1) 1000000=true
  exact eCi (by omega)
 have f:(E.drop 0).take m=E:=by rw [eCo]; exact eBz (by omega)
 simp only [z1q,x71,u7l,z2r,z2s,z14,z3d,b,hid,z7i,i,g,f]
 rfl
theorem v91 {n i:Nat} (P:n≤100000) (R:i<n) {Q:AS→Prop} (k:Q ⟨mkT n (i+1) i,hpT n (i+1),16⟩):y3d PZ 0 (y2d 68 pT5) (eAv (y2d 68 pT5).size) ⟨mkT n i i,hpT n i,16⟩ (fun s=>∃ s',z6n 0 s s'∧Q s'):=by
 have H:eAv (y2d 68 pT5).size=[0,1,2,3,4,5]:=by kernel_rfl
 obtain ⟨N,G⟩:=y1c (f:=68) (p:=pT5) (i:=0) (dst:=some 10) (op:= .move (.tmp 3)) (by kernel_rfl)
 obtain ⟨w1,F⟩:=y1c (f:=68) (p:=pT5) (i:=1) (dst:=some 11) (op:= .move (.tmp 0)) (by kernel_rfl)
 obtain ⟨M,E⟩:=y1c (f:=68) (p:=pT5) (i:=2) (dst:=some 12) (op:= .makeSlice 98 (.tmp 11) (.tmp 11)) (by kernel_rfl)
 obtain ⟨L,C⟩:=y1c (f:=68) (p:=pT5) (i:=3) (dst:=some 13) (op:= .buildSlice 96 1 #[(0, .tmp 12)]) (by kernel_rfl)
 obtain ⟨K,w⟩:=y1c (f:=68) (p:=pT5) (i:=4) (dst:=some 14) (op:= .call ⟨.builtin .append,#[.tmp 10, .tmp 13],#[96,96]⟩) (by kernel_rfl)
 obtain ⟨J,v⟩:=y1c (f:=68) (p:=pT5) (i:=5) (dst:=some 3) (op:= .assign (.tmp 14)) (by kernel_rfl)
 have B:=u2l n i
 have I:std.and (std.cmp .geq (n:Int) 0) (std.and (std.cmp .leq (n:Int) n) (std.cmp .leq (n:Int) 1000000))=true:=by
  rw [z88,w3k,w3k,y3p,y3p,decide_eq_true (show (n:Int)≥0 by omega),decide_eq_true (eDd _),decide_eq_true (show (n:Int)≤1000000 by omega)]; rfl
 have A:=B.len
 have z:=y6k A (.row (eAu n [.bool false]))
 have y:=y6k z (.arow [[.slice (3*i) 1 0 n (some n)]])
 have c:∀ j,j≠3*i→z0e (z04 (hpT n i) (3*i) (.row (eAu n [.bool false]))) j=z0e (hpT n i) j:=fun j o=>z0c _ _ _ _ (eDa o)
 have b:∀ j,j≠3*i+1→z0e (z04 (z04 (hpT n i) (3*i) (.row (eAu n [.bool false]))) (3*i+1) (.arow [[.slice (3*i) 1 0 n (some n)]])) j=z0e (z04 (hpT n i) (3*i) (.row (eAu n [.bool false]))) j:=fun j o=>z0c _ _ _ _ (eDa o)
 have a:z0e (z04 (z04 (hpT n i) (3*i) (.row (eAu n [.bool false]))) (3*i+1) (.arow [[.slice (3*i) 1 0 n (some n)]])) (3*i+1)= .arow [[.slice (3*i) 1 0 n (some n)]]:=z0g _ _ _
 have t:hpT n (i+1)=z08 (z04 (z04 (hpT n i) (3*i) (.row (eAu n [.bool false]))) (3*i+1) (.arow [[.slice (3*i) 1 0 n (some n)]])) (if i=0 then [(3*i+2, .arow (z9c n (i+1)))] else [(3*i - 1, .dead),(3*i+2, .arow (z9c n (i+1)))]):=rfl
 rw [t] at k
 have O:eAu n [D.bool false]=eAu n [.bool false]:=rfl
 rw [H]
 refine osZ G (q:=false) (r:=[]) (ra:=[]) (res:=⟨true,w08 i,[]⟩) trivial rfl rfl rfl ?_
 refine osZ F (q:=false) (r:=[]) (ra:=[]) (res:=⟨true, .d (.int .i64 n),[]⟩) trivial rfl rfl rfl ?_
 refine osZ E (q:=false) (r:=[]) (ra:=[]) (res:=⟨std.and (std.cmp .geq (n:Int) 0) (std.and (std.cmp .leq (n:Int) n) (std.cmp .leq (n:Int) 1000000)), .slice (3*i) 1 0 n (some n),[(3*i, .row (eAu n [.bool false]))]⟩) trivial ((mkSl (n:=n) rfl).trans (by rw [show (z4p (z4p (⟨mkT n i i,hpT n i,16⟩:AS) (some 10) (w08 i) []) (some 11) (.d (.int .i64 n)) []).heap.length=3*i from A])) I rfl ?_
 refine osZ C (q:=false) (r:=[]) (ra:=[]) (res:=⟨true, .slice (3*i+1) 1 0 1 (some 1),[(3*i+1, .arow [[.slice (3*i) 1 0 n (some n)]])]⟩) trivial ((litT (x:=3*i) (n:=n) rfl).trans (by
  show some (⟨true, .slice (z04 (hpT n i) (3*i) (.row (eAu n [.bool false]))).length 1 0 1 (some 1),[((z04 (hpT n i) (3*i) (.row (eAu n [.bool false]))).length, .arow [[.slice (3*i) 1 0 n (some n)]])]⟩:Res)=_
  rw [z])) rfl rfl ?_
 show y3d PZ 0 _ [4,5] ⟨_,z04 (z04 (hpT n i) (3*i) (.row (eAu n [.bool false]))) (3*i+1) (.arow [[.slice (3*i) 1 0 n (some n)]]),16⟩ _
 generalize z04 (z04 (hpT n i) (3*i) (.row (eAu n [.bool false]))) (3*i+1) (.arow [[.slice (3*i) 1 0 n (some n)]])=u at*
 by_cases l:i=0
 ·subst l
  refine osZ w (q:=true) (r:=[]) (ra:=[]) (res:=⟨true, .slice 2 1 0 1 none,[(2, .arow [[.slice 0 1 0 n (some n)]])]⟩) (w8j rfl) ((v8o (x:=0) (n:=n) rfl rfl a).trans (by rw [y])) rfl rfl ?_
  refine osZ v (q:=false) (r:=[]) (ra:=[]) (res:=⟨true, .slice 2 1 0 1 none,[]⟩) trivial rfl rfl rfl ?_
  refine z6q ⟨_,?_,k⟩
  exact z6n.env (n:=0) (s:=⟨_,z04 u 2 (.arow [[.slice 0 1 0 n (some n)]]),16⟩) (z4j fun x e=>by
   simp only [mkT,eBa,eCl,or_false] at e
   rcases e with rfl|rfl|rfl<;>rfl)
 ·have g:w08 i= .slice (3*i - 1) 1 0 i none:=if_neg l
  have m:w08 (i+1)= .slice (3*i+2) 1 0 (i+1) none:=by unfold w08; rw [if_neg (by omega),show 3*(i+1) - 1=3*i+2 by omega]
  have h:z0e u (3*i - 1)= .arow (z9c n i):=by rw [b _ (by omega),c _ (by omega)]; exact B.arr (by omega)
  refine osZ w (q:=false) (r:=[]) (ra:=[]) (res:=⟨true, .slice (3*i+2) 1 0 (i+1) none,[(3*i - 1, .dead),(3*i+2, .arow (z9c n (i+1)))]⟩) (w8i g) (by refine Eq.trans (v8n (x:=3*i) (n:=n) g rfl a h (x3n n i) (by omega)) ?_; rw [y,w04]) rfl rfl ?_
  refine osZ v (q:=false) (r:=[]) (ra:=[]) (res:=⟨true, .slice (3*i+2) 1 0 (i+1) none,[]⟩) trivial rfl rfl rfl ?_
  rw [if_neg l] at k
  refine z6q ⟨_,?_,k⟩
  exact z6n.env (n:=0) (s:=⟨_,z08 u [(3*i - 1, .dead),(3*i+2, .arow (z9c n (i+1)))],16⟩) (z4j fun x e=>by
   simp only [mkT,m,eBa,eCl,or_false] at e
   rcases e with rfl|rfl|rfl<;>rfl)
theorem s68:cdZ 68 []= .seq (cdZ 68 [false]) (.seq (cdZ 68 [false,true]) (.seq (.seq (cdZ 68 [false,false,true,true]) (.block 0 (.loop (cdZ 68 pTB)))) (cdZ 68 [true,true,true]))):=by kernel_rfl
theorem sB68:cdZ 68 pTB= .seq (cdZ 68 (false::pTB)) (.seq (.block 1 (.region 5 (y2d 68 pT5) false)) (cdZ 68 ([true,true]++pTB))):=by kernel_rfl
theorem t3q:z05 PZ 68 [false]=some (cdZ 68 [false]):=by kernel_rfl
theorem t3o:z05 PZ 68 [false,true]=some (cdZ 68 [false,true]):=by kernel_rfl
theorem t3n:z05 PZ 68 [false,false,true,true]=some (cdZ 68 [false,false,true,true]):=by kernel_rfl
theorem u5k:z05 PZ 68 (false::pTB)=some (cdZ 68 (false::pTB)):=by kernel_rfl
theorem t3l:z05 PZ 68 ([true,true]++pTB)=some (cdZ 68 ([true,true]++pTB)):=by kernel_rfl
theorem t3k:z05 PZ 68 [true,true,true]=some (cdZ 68 [true,true,true]):=by kernel_rfl
theorem t3e (n:Int):y4h 68 16 [false] [(0, .d (.int .i64 n))] []=some (.normal,⟨⟨[(2, .d (.list true 0 [])),(0, .d (.int .i64 n))],[],16⟩,[]⟩):=by kernel_rfl
theorem t3c (n:Int):y4h 68 16 [false,true] [(0, .d (.int .i64 n))] []=some (.normal,⟨⟨[(3, .d (.list true 0 [])),(0, .d (.int .i64 n))],[],16⟩,[]⟩):=by kernel_rfl
theorem t3b (n:Int):y4h 68 16 [false,false,true,true] [(3, .d (.list true 0 [])),(0, .d (.int .i64 n))] []=some (.normal,⟨⟨[(4, .d (.int .i64 0)),(3, .d (.list true 0 [])),(0, .d (.int .i64 n))],[],16⟩,[]⟩):=by kernel_rfl
theorem u3e (n i:Int) (v:AV) (h:List AO):y4h 68 16 (false::pTB) [(0, .d (.int .i64 n)),(3,v),(4, .d (.int .i64 i))] h=opt.ask _ (std.cmp .lss i n)
  (some (.normal,⟨⟨[(7, .d (.bool true)),(6, .d (.int .i64 n)),(5, .d (.int .i64 i)),(0, .d (.int .i64 n)),(3,v),(4, .d (.int .i64 i))],h,16⟩,[]⟩))
  (some (.exit 0,⟨⟨[(7, .d (.bool false)),(6, .d (.int .i64 n)),(5, .d (.int .i64 i)),(0, .d (.int .i64 n)),(3,v),(4, .d (.int .i64 i))],h,16⟩,[]⟩)):=by kernel_rfl
theorem t29 (n i:Int) (v:AV) (h:List AO):y4h 68 16 ([true,true]++pTB) [(0, .d (.int .i64 n)),(3,v),(4, .d (.int .i64 i))] h=
  some (.normal,⟨⟨[(4, .d (.int .i64 (std.ar .add .i64 i 1))),(9, .d (.int .i64 (std.ar .add .i64 i 1))),(8, .d (.int .i64 i)),(0, .d (.int .i64 n)),(3,v),(4, .d (.int .i64 i))],h,16⟩,[]⟩):=by kernel_rfl
theorem t27 (n i:Int) (v:AV) (h:List AO):y4h 68 16 [true,true,true] [(0, .d (.int .i64 n)),(3,v),(4, .d (.int .i64 i))] h=
  some (.ret,⟨⟨[(2,v),(15,v),(0, .d (.int .i64 n)),(3,v),(4, .d (.int .i64 i))],h,16⟩,[]⟩):=by kernel_rfl
theorem wrZ {i:Nat} (h:i≤1000000):std.ar .add .i64 (i:Int) 1=((i+1:Nat):Int):=by rw [z8d]; exact y45 (by omega)
theorem u0w {n:Nat} (f:n≤100000) {Q:AX→AS→Prop} (h:Q (.exit 0) ⟨mkT n n n,hpT n n,16⟩):z5p PZ 0 (.loop (cdZ 68 pTB)) ⟨mkT n 0 0,hpT n 0,16⟩ Q:=by
 let ι:={ i:Nat // i≤n }
 let I:ι→AS:=fun g=>⟨mkT n g.1 g.1,hpT n g.1,16⟩
 refine z7e (ι:=ι) I (fun g=>n - g.1) (fun _ _=>rfl) ?_ ⟨0,eBb _⟩
 rintro ⟨i,j⟩
 rw [sB68]
 refine z00 ?_
 by_cases b:i<n
 ·have d:std.cmp .lss ((i:Nat):Int) (n:Int)=true:=by rw [z3y]; exact decide_eq_true (by omega)
  refine (y1b u5k ((u3e n i (w08 i) (hpT n i)).trans (by rw [d]; rfl))).mono ?_
  rintro e s ⟨rfl,rfl⟩
  refine z1d (s':=⟨mkT n i i,hpT n i,16⟩) (z6n.env (n:=0) (s:=⟨_,hpT n i,16⟩) (z4j fun x a=>by
   simp only [mkT,eBa,eCl,or_false] at a
   rcases a with rfl|rfl|rfl<;>rfl)) (z00 (z1f (z1g (z7d ?_))))
  refine v91 f b (Q:=fun s'=>z5p PZ 0 (cdZ 68 ([true,true]++pTB)) s' _) ?_
  refine z1g ((y1b t3l (t29 n i (w08 (i+1)) (hpT n (i+1)))).mono ?_)
  rintro e s ⟨rfl,rfl⟩
  rw [wrZ (i:=i) (by omega)]
  exact ⟨⟨mkT n (i+1) ((i+1:Nat)),hpT n (i+1),16⟩,z6n.env (n:=0) (s:=⟨_,hpT n (i+1),16⟩) (z4j fun x a=>by
   simp only [mkT,eBa,eCl,or_false] at a
   rcases a with rfl|rfl|rfl<;>rfl),⟨⟨i+1,b⟩,rfl,by show n - (i+1)<n - i; omega⟩⟩
 ·have d:std.cmp .lss ((i:Nat):Int) (n:Int)=false:=by rw [z3y]; exact decide_eq_false (by omega)
  have c:i=n:=by omega
  subst c
  refine z1g ((y1b u5k ((u3e i i (w08 i) (hpT i i)).trans (by rw [d]; rfl))).mono ?_)
  rintro e s ⟨rfl,rfl⟩
  exact ⟨⟨mkT i i i,hpT i i,16⟩,z6n.env (n:=0) (s:=⟨_,hpT i i,16⟩) (z4j fun x a=>by
   simp only [mkT,eBa,eCl,or_false] at a
   rcases a with rfl|rfl|rfl<;>rfl),h⟩
theorem u5v {n:Nat} (h:n≤100000):z3s PZ 68 [.d (.int .i64 (n:Int))] [] (w08 n) (hpT n n):=by
 have f:∃ fn,PZ.funcs[68]?=some fn∧fn.body=some (cdZ 68 [])∧fn.ntmps=16∧fn.results.toList=[.tmp 2]:=by
  have:(PZ.funcs[68]?.map fun fn=>(fn.body,fn.ntmps,fn.results.toList))=some (some (cdZ 68 []),16,[.tmp 2]):=by kernel_rfl
  cases g:PZ.funcs[68]? with
  |none=>rw [g] at this; cases this
  |some fn=>
   rw [g] at this
   simp only [eBo,Option.some.injEq,Prod.mk.injEq] at this
   exact ⟨fn,rfl,this.1,this.2.1,this.2.2⟩
 obtain ⟨fn,i,j,c,b⟩:=f
 refine y0r hTZ i j c (by show 1≤16; omega) ?_
 rw [b,s68]
 refine z00 ((y1b t3q (t3e n)).mono ?_)
 rintro e s1 ⟨rfl,rfl⟩
 refine z1d (s':=⟨[(0, .d (.int .i64 n))],[],16⟩) (z6n.env (n:=0) (s:=⟨_,[],16⟩) (z4j fun x a=>by
   simp only [eBa,eCl,or_false] at a
   rcases a with rfl
   rfl)) ?_
 refine z00 ((y1b t3o (t3c n)).mono ?_)
 rintro e s1 ⟨rfl,rfl⟩
 refine z00 (z00 ((y1b t3n (t3b n)).mono ?_))
 rintro e s1 ⟨rfl,rfl⟩
 refine z1d (s':=⟨mkT n 0 0,hpT n 0,16⟩) (z6n.env (n:=0) (s:=⟨_,[],16⟩) (z4j fun x a=>by
   simp only [mkT,eBa,eCl,or_false] at a
   rcases a with rfl|rfl|rfl<;>rfl)) ?_
 refine z1f (u0w h ?_)
 simp only [if_true]
 refine (y1b t3k (t27 n n (w08 n) (hpT n n))).mono ?_
 rintro e s1 ⟨rfl,rfl⟩
 exact ⟨.inr rfl,rfl,rfl⟩
structure Mat (h:List AO) (o:Nat) (E:List (List AV)) (R:List (List Bool)) (N:Nat):Prop where
 olt:o<h.length
 arr:z0e h o= .arow E
 len:E.length=R.length
 cell:∀ (j:Nat) (row:List Bool),R[j]?=some row→∃ id:Nat,E[j]?=some [AV.slice id 1 0 N (some N)]∧z0e h id= .row (z1z row)∧row.length=N∧id≠o∧id<h.length
 inj:∀ (j j' id:Nat),E[j]?=some [AV.slice id 1 0 N (some N)]→E[j']?=some [AV.slice id 1 0 N (some N)]→j=j'
theorem mat0 {n:Nat} (h:0<n):Mat (hpT n n) (3*n - 1) (z9c n n) (eAu n (eAu n false)) n:=by
 have g:=u2l n n
 refine ⟨by rw [g.len]; omega,g.arr h,by rw [x3n]; simp,fun j row f=>?_,fun j l id d c=>?_⟩
 ·rw [eCs] at f
  split at f
  ·rename_i e
   cases f
   refine ⟨3*j,?_,?_,by simp,by omega,by rw [g.len]; omega⟩
   ·unfold z9c
    rw [eAj,List.getElem?_range e]; rfl
   ·rw [g.row j e]
    simp [z1z,eBl]
  ·cases f
 ·unfold z9c at d c
  rw [eAj] at d c
  cases k:(eAv n)[j]? with
  |none=>rw [k] at d; cases d
  |some a=>
   cases i:(eAv n)[l]? with
   |none=>rw [i] at c; cases c
   |some b=>
    rw [k] at d; rw [i] at c
    have o:j=a:=by
     have:=(eAe.1 k)
     obtain ⟨p,q⟩:=this
     rw [List.getElem_range] at q; exact q
    have m:l=b:=by
     obtain ⟨p,q⟩:=(eAe.1 i)
     rw [List.getElem_range] at q; exact q
    simp only [eBo,Option.some.injEq,List.cons.injEq,AV.slice.injEq,and_true,true_and] at d c
    omega
theorem Mat.store {h:List AO} {o N:Nat} {E:List (List AV)} {R:List (List Bool)} (hm:Mat h o E R N) {x:Nat} {row:List Bool} (k:R[x]?=some row) {id:Nat} (hE:E[x]?=some [AV.slice id 1 0 N (some N)]) (y:Nat) (v:Bool):
  Mat (z04 h id (.row ((z1z row).set y [.bool v]))) o E (R.set x (row.set y v)) N:=by
 obtain ⟨q,p,z,w,n,m⟩:=hm.cell x row k
 rw [hE] at p; cases p
 have g:=z2t h id (.row ((z1z row).set y [.bool v])) m
 have d:=(eAe.1 k).1
 have a:(z1z row).set y [.bool v]=z1z (row.set y v):=by
  unfold z1z
  rw [show ([D.bool v])=eBl v from rfl, ←List.map_set]
 refine ⟨by rw [g]; exact hm.olt,by rw [z0c _ _ _ _ n]; exact hm.arr,by rw [eFz]; exact hm.len,fun j c b=>?_,hm.inj⟩
 by_cases e:x=j
 ·subst e
  rw [eCr,if_pos rfl,if_pos d] at b
  cases b
  exact ⟨id,hE,by rw [z0g,a],by rw [eFz]; exact w,n,by rw [g]; exact m⟩
 ·rw [eFa e] at b
  obtain ⟨i,l,u,t,s,r⟩:=hm.cell j c b
  have f:id≠i:=fun h=>by
   subst h
   exact e (hm.inj _ _ _ hE l)
  exact ⟨i,l,by rw [z0c _ _ _ _ f]; exact u,t,s,by rw [g]; exact r⟩
end Go.Am
end
section
namespace Go.Am
open D12
variable {fl:List Int→Bool}
theorem x4x (l:List Bool):(z1z l).length=l.length:=by simp [z1z]
theorem w52 (l:List (List Bool)):(z2y l).length=l.length:=by simp [z2y]
theorem w9m {h:List AO} {o N M nt a:Nat} {E:List (List AV)} {R:List (List Bool)} {c0:Option Nat} {env env':List (Nat×AV)} (hm:Mat h o E R N) (hR:R.length=M) (he:z0z env a= .slice o 1 0 M c0)
  (hd:∀ t,z0z env' t= .bot∨(t=a∧z0z env' t= .d (.list false 1 (z2y R)))∨∃ d,z0z env' t= .d d∧z0z env t= .d d):z6n 0 ⟨env,h,nt⟩ ⟨env',[],nt⟩:=⟨by
 intro P ρ tm w A
 have T:w7n (fun _=>false) h []:=⟨fun id=>by rw [z4r]; rfl,fun id z=>by cases z⟩
 have C:=A.view (h':=[]) T
 refine ⟨ρ.only fun _=>false,⟨C.heap,fun t=>?_,C.size,C.dom⟩,rfl,Ext.view' (fun id hid=>absurd hid (Nat.not_lt_zero _)) ρ w T,fun id hid=>absurd hid (Nat.not_lt_zero _)⟩
 show z0q (ρ.only fun _=>false) (z0f (ρ.only fun _=>false) []) w (z0z env' t) _
 rcases hd t with y|⟨rfl,y⟩|⟨d,y,K⟩
 ·rw [y]; exact .bot _
 ·rw [y]
  have s:z0q ρ (z0f ρ h) w (z0z env t) (tm.getD t undef):=A.env t
  rw [he] at s
  generalize tm.getD t undef=v at s
  have g:(z2y R).length=M:=by rw [w52,hR]
  have p:M=0→z2y R=[]:=fun S=>eBw.1 (by rw [g]; exact S)
  cases s with
  |nils _ _ _ _ a hc=>
   rw [p rfl]
   exact .d (.lnil _ _ _ _ (by simp))
  |slice _ _ _ _ _ L a c X Z ha hc hl=>
   by_cases S:M=0
   ·subst S
    rw [p rfl]
    exact .d (.lnil _ _ _ _ (by simp))
   ·have Q:=ha (by omega)
    subst Q
    obtain ⟨W,m⟩:=A.heap.obj o L X
    have m:z1e P ρ (z0f ρ h) w L (z0e h o):=m
    rw [hm.arr] at m
    obtain ⟨Y,cs,t0,H,G,x⟩:=m
    have key:∀ (i:Nat) (row:List Bool),R[i]?=some row→∃ u,cs[L.base+i]?=some u∧u.oneCell'=true∧z1m (z0f (ρ.only fun _=>false) []) w (.list false 1 (z1z row)) u:=by
     intro i row f
     obtain ⟨id,hE,hid,F,_,_⟩:=hm.cell i row f
     obtain ⟨u,a,b,e⟩:=x i _ 0 _ hE rfl
     rw [Z,eDg,eBk] at a
     refine ⟨u,a,b,?_⟩
     have J:(bV std h (.slice id 1 0 N (some N))).1=true:=by
      simp only [bV,hid]
      rw [y3o,y59,z7z,x4x]; exact decide_eq_true (by omega)
     have:=v8i A.heap e J
     have I:(bV std h (.slice id 1 0 N (some N))).2= .d (.list false 1 (z1z row)):=by
      simp only [bV,hid]
      rw [y58,eCo,eBz (by rw [x4x,F]; exact eAp _)]
     rw [I] at this
     cases this with|d this=>exact this
    have q:∀ (i:Nat) (r:List D),(z2y R)[i]?=some r→∃ row:List Bool,R[i]?=some row∧r=[D.list false 1 (z1z row)]:=by
     intro i r n
     rw [z2y,eAj] at n
     cases U:R[i]? with
     |none=>rw [U] at n; cases n
     |some row=>rw [U] at n; cases n; exact ⟨row,rfl,rfl⟩
    refine .d ?_
    have B:=z1m.list (O:=z0f (ρ.only fun _=>false) []) (w:=w) false (z2y R) L.blk (L.base+0*L.esz) 1 c (by omega) (by intro e; rw [e] at g; simp at g; omega)
     (fun y=>A.heap.sep o L X (by show (z0e h o).live=true; rw [hm.arr]; rfl) (z4z.1 y)) (by rw [g]; exact hl) (by simp) (fun i r n=>by obtain ⟨row,_,rfl⟩:=q i r n; rfl)
     (fun k=>(cs[L.base+k]?).getD undef) (fun k z=>?_) (fun k z=>?_) (fun i r j d n V=>?_)
    ·rw [g] at B; exact B
    ·rw [g,eDg] at z
     obtain ⟨row,f⟩:=z0d (l:=R) (i:=k) (by omega)
     obtain ⟨u,a,b,_⟩:=key k row f
     rw [a]; exact b
    ·rw [g,eDg] at z
     obtain ⟨row,f⟩:=z0d (l:=R) (i:=k) (by omega)
     obtain ⟨u,a,_,_⟩:=key k row f
     rw [Nat.zero_mul,eBk,a]; exact y37 H a
    ·obtain ⟨row,f,rfl⟩:=q i r n
     obtain ⟨u,a,_,e⟩:=key i row f
     cases j with
     |zero=>
      cases V
      rw [eDg,eBk,a]; exact e
     |succ j=>simp at V
 ·have:=C.env t
  have this:z0q (ρ.only fun _=>false) (z0f (ρ.only fun _=>false) []) w (z0z (y72 h (fun _=>false) env) t) (tm.getD t undef):=this
  rw [y3y,K] at this
  rw [y]; exact this⟩
theorem x45 {x M:Nat} (h:x<M):(std.cmp .geq (x:Int) 0&&std.cmp .lss (x:Int) (std.ofNat M))=true:=by
 rw [z88,z3y,eAf]
 exact ⟨decide_eq_true (by omega),decide_eq_true (by show (x:Int)<(M:Int); omega)⟩
theorem t1i {env:List (Nat×AV)} {h:List AO} {new a b o M x:Nat} {c:Option Nat} (g:z0z env a= .slice o 1 0 M c) (f:z0z env b= .d (.int .i64 (x:Int))):
  z0t std EZ.T gZ env h new false [] [] (.indexAddr 96 (.tmp a) (.tmp b))=some ⟨std.cmp .geq (x:Int) 0&&std.cmp .lss (x:Int) (std.ofNat M), .ptr o x 0,[]⟩:=by
 simp only [z0t,x71,z0m,z6t,g,f]
 have e:(.ptr o (0+x) 0:AV)= .ptr o x 0:=by rw [eAy]
 exact congrArg (fun y=>some (⟨_,y,[]⟩:Res)) e
theorem v7f {env:List (Nat×AV)} {h:List AO} {new a b o M x:Nat} {c:Option Nat} (g:z0z env a= .slice o 1 0 M c) (f:z0z env b= .d (.int .i64 (x:Int))):
  z0t std EZ.T gZ env h new false [] [] (.indexAddr 98 (.tmp a) (.tmp b))=some ⟨std.cmp .geq (x:Int) 0&&std.cmp .lss (x:Int) (std.ofNat M), .ptr o x 0,[]⟩:=by
 simp only [z0t,w29,z0m,z6t,g,f]
 have e:(.ptr o (0+x) 0:AV)= .ptr o x 0:=by rw [eAy]
 exact congrArg (fun y=>some (⟨_,y,[]⟩:Res)) e
theorem w8k {env:List (Nat×AV)} {h:List AO} {a o x:Nat} {E:List (List AV)} {ra:List AV} (c:z0z env a= .ptr o x 0) (b:z0e h o= .arow E) (hE:E[x]?=some ra):(z1b std EZ.T env h (.load 98 (.tmp a))).ok false [] ra:=by
 simp only [z1b,z0m,c,z93,z6h,b,x7u.ok,hE]
theorem ld98 {env:List (Nat×AV)} {h:List AO} {new a o x id N:Nat} {E:List (List AV)} (c:z0z env a= .ptr o x 0) (b:z0e h o= .arow E):
  z0t std EZ.T gZ env h new false [] [.slice id 1 0 N (some N)] (.load 98 (.tmp a))=some ⟨true, .slice id 1 0 N (some N),[]⟩:=by
 simp only [z0t,w29,z6t,z0m,c,z93,z2z,b,t43,part]
 rfl
theorem v4z {env:List (Nat×AV)} {h:List AO} {a id x:Nat} {row:List Bool} {b:Bool} (e:z0z env a= .ptr id x 0) (c:z0e h id= .row (z1z row)) (d:row[x]?=some b):(z1b std EZ.T env h (.load 4 (.tmp a))).ok false [.bool b] []:=by
 simp only [z1b,z0m,e,z93,z6h,c,x7u.ok]
 have:(z1z row)[x]?=some [.bool b]:=u0b d
 exact ⟨_,this,y4a.refl _⟩
theorem ld4 {env:List (Nat×AV)} {h:List AO} {new a id x:Nat} {row:List Bool} {b:Bool} (e:z0z env a= .ptr id x 0) (c:z0e h id= .row (z1z row)):
  z0t std EZ.T gZ env h new false [.bool b] [] (.load 4 (.tmp a))=some ⟨true, .d (.bool b),[]⟩:=by
 simp only [z0t,v9v,z6t,z0m,e,z93,z2z,c,ti4,part]
 rfl
theorem w22 {env:List (Nat×AV)} {h:List AO} {a id x:Nat} {v:Operand} {row:List Bool} {b:Bool} (e:z0z env a= .ptr id x 0) (c:z0e h id= .row (z1z row)) (d:row[x]?=some b):(z1b std EZ.T env h (.store 4 (.tmp a) v)).ok false [.bool b] []:=by
 simp only [z1b,z0m,e,z6h,c,x7u.ok]
 have:(z1z row)[x]?=some [.bool b]:=u0b d
 exact ⟨_,this,y4a.refl _⟩
theorem st4 {env:List (Nat×AV)} {h:List AO} {new a id x:Nat} {op:Operand} {row:List Bool} {b v:Bool} (f:z0z env a= .ptr id x 0) (c:z0m env op= .d (.bool v)) (e:z0e h id= .row (z1z row)):
  z0t std EZ.T gZ env h new false [.bool b] [] (.store 4 (.tmp a) op)=some ⟨true, .bot,[(id, .row ((z1z row).set x [.bool v]))]⟩:=by
 simp only [z0t,v9v]
 rw [c,show z0m env (.tmp a)= .ptr id x 0 from f]
 simp only [z5e,z2j,ti4,z40,e]
 rfl
end Go.Am
end
section
namespace Go.Am
open Go Go.RowKit
variable {P:Program}
theorem z6r {O:Nat→Prop} {w w':World} (c:Below w.heap.size w w'):z5d O O w w':=
 ⟨c.size,fun b a _=>c.block b a,fun _ _ h=>h,fun b n h=>by
  have:=z7x h
  unfold z1c; rw [c.block b this]; exact h,trivial⟩
theorem z2p {g:FuncId} {args:List AV} {r:AV}
  (h:∀ (ρ:Rho) (vs:Array Value) (w:World),(∀ id,ρ id=none)→GL P (z0f ρ []) w→z07 ρ (z0f ρ []) w args vs→
   Calls P g vs w fun e w'=>∃ v,e= .returned v∧z0q ρ (z0f ρ []) w' r v∧Below w.heap.size w w'):z3s P g args [] r []:=⟨by
 intro ρ vs w cs d c m
 have i:∀ id,ρ id=none:=fun id=>by
  cases p:ρ id with
  |none=>rfl
  |some M=>exact absurd (c id (by rw [p]; simp)) (by simp)
 obtain ⟨e,w',fr,⟨v,rfl,o,a⟩,l,k,j⟩:=h ρ vs w i d.gl m cs
 have n:z5d (z0f ρ []) (z0f ρ []) w w':=z6r a
 exact ⟨ρ,v,w',fr,l,k,j,o,d.of_keep n fun b f=>a.block b (z7p d f),c,
  ⟨a.os,a.tape,a.output,n,fun _ _=>rfl,rfl,fun b q=>a.block b (d.fr b q)⟩⟩⟩
theorem y8o {g:FuncId} {args:List AV} {r:AV}
  (h:∀ (ρ:Rho) (vs:Array Value) (w:World),(∀ id,ρ id=none)→(∀ b,ρ.fr b→b<w.heap.size)→GL P (z0f ρ []) w→z07 ρ (z0f ρ []) w args vs→
   Calls P g vs w fun e w'=>∃ v,e= .returned v∧z0q ρ (z0f ρ []) w' r v∧Below w.heap.size w w'):z3s P g args [] r []:=⟨by
 intro ρ vs w cs c d m
 have i:∀ id,ρ id=none:=fun id=>by
  cases p:ρ id with
  |none=>rfl
  |some M=>exact absurd (d id (by rw [p]; simp)) (by simp)
 obtain ⟨e,w',fr,⟨v,rfl,o,a⟩,l,k,j⟩:=h ρ vs w i c.fr c.gl m cs
 have n:z5d (z0f ρ []) (z0f ρ []) w w':=z6r a
 exact ⟨ρ,v,w',fr,l,k,j,o,c.of_keep n fun b f=>a.block b (z7p c f),d,
  ⟨a.os,a.tape,a.output,n,fun _ _=>rfl,rfl,fun b q=>a.block b (c.fr b q)⟩⟩⟩
end Go.Am
end
section
namespace Go.Proofs
def y9j:Go.Shelf.Ren:=⟨fun|276=>142|277=>189|241=>165|240=>119|169=>85|166=>83|165=>144|156=>121|n=>n,fun|80=>71|5=>5|164=>168|75=>120|127=>149|37=>53|70=>116|76=>121|72=>118|20=>20|0=>0|4=>4|3=>3|9=>9|31=>147|n=>n,fun|n=>n⟩
theorem x1s : Go.Proofs.Lays.n156 Tryz.prog y9j :=
  { mixed := by kernel_rfl,
    f156 := Tryz.func121.trans (congrArg some (by kernel_rfl)),
    f165 := Tryz.func144.trans (congrArg some (by kernel_rfl)),
    f166 := Tryz.func83.trans (congrArg some (by kernel_rfl)),
    f169 := Tryz.func85.trans (congrArg some (by kernel_rfl)),
    f240 := Tryz.func119.trans (congrArg some (by kernel_rfl)),
    f241 := Tryz.func165.trans (congrArg some (by kernel_rfl)),
    f276 := Tryz.func142.trans (congrArg some (by kernel_rfl)),
    f277 := Tryz.func189.trans (congrArg some (by kernel_rfl)),
    t0 := Tryz.underlying0,
    a0 := Tryz.isAgg0,
    z0 := Tryz.sizeOf0,
    v0 := Tryz.zeroValue0,
    t3 := Tryz.underlying3,
    a3 := Tryz.isAgg3,
    z3 := Tryz.sizeOf3,
    v3 := Tryz.zeroValue3,
    t4 := Tryz.underlying4,
    a4 := Tryz.isAgg4,
    z4 := Tryz.sizeOf4,
    v4 := Tryz.zeroValue4,
    t9 := Tryz.underlying9,
    a9 := Tryz.isAgg9,
    z9 := Tryz.sizeOf9,
    v9 := Tryz.zeroValue9,
    t20 := Tryz.underlying20,
    a20 := Tryz.isAgg20,
    z20 := Tryz.sizeOf20,
    v20 := Tryz.zeroValue20,
    t31 := Tryz.underlying147,
    a31 := Tryz.isAgg147,
    z31 := Tryz.sizeOf147,
    v31 := Tryz.zeroValue147,
    t37 := Tryz.underlying53,
    a37 := Tryz.isAgg53,
    z37 := Tryz.sizeOf53,
    v37 := Tryz.zeroValue53,
    t70 := Tryz.underlying116,
    a70 := Tryz.isAgg116,
    z70 := Tryz.sizeOf116,
    v70 := Tryz.zeroValue116,
    t72 := Tryz.underlying118,
    a72 := Tryz.isAgg118,
    z72 := Tryz.sizeOf118,
    v72 := Tryz.zeroValue118,
    t75 := Tryz.underlying120,
    a75 := Tryz.isAgg120,
    z75 := Tryz.sizeOf120,
    v75 := Tryz.zeroValue120,
    t76 := Tryz.underlying121,
    a76 := Tryz.isAgg121,
    z76 := Tryz.sizeOf121,
    v76 := Tryz.zeroValue121,
    t127 := Tryz.underlying149,
    a127 := Tryz.isAgg149,
    z127 := Tryz.sizeOf149,
    v127 := Tryz.zeroValue149,
    t164 := Tryz.underlying168,
    a164 := Tryz.isAgg168,
    z164 := Tryz.sizeOf168,
    v164 := Tryz.zeroValue168 }
def w4w:Go.Shelf.Ren:=⟨fun|266=>190|314=>191|267=>169|224=>168|225=>167|217=>166|219=>145|220=>124|145=>87|n=>n,fun|51=>183|146=>209|46=>162|5=>5|3=>3|59=>124|4=>4|9=>9|n=>n,fun|1=>0|n=>n⟩
theorem u1e : Go.Proofs.Lays.n145 Tryz.prog w4w :=
  { mixed := by kernel_rfl,
    f145 := Tryz.func87.trans (congrArg some (by kernel_rfl)),
    f217 := Tryz.func166.trans (congrArg some (by kernel_rfl)),
    f219 := Tryz.func145.trans (congrArg some (by kernel_rfl)),
    f220 := Tryz.func124.trans (congrArg some (by kernel_rfl)),
    f224 := Tryz.func168.trans (congrArg some (by kernel_rfl)),
    f225 := Tryz.func167.trans (congrArg some (by kernel_rfl)),
    f266 := Tryz.func190.trans (congrArg some (by kernel_rfl)),
    f267 := Tryz.func169.trans (congrArg some (by kernel_rfl)),
    f314 := Tryz.func191.trans (congrArg some (by kernel_rfl)),
    t3 := Tryz.underlying3,
    a3 := Tryz.isAgg3,
    z3 := Tryz.sizeOf3,
    v3 := Tryz.zeroValue3,
    t4 := Tryz.underlying4,
    a4 := Tryz.isAgg4,
    z4 := Tryz.sizeOf4,
    v4 := Tryz.zeroValue4,
    t5 := Tryz.underlying5,
    a5 := Tryz.isAgg5,
    z5 := Tryz.sizeOf5,
    v5 := Tryz.zeroValue5,
    t9 := Tryz.underlying9,
    a9 := Tryz.isAgg9,
    z9 := Tryz.sizeOf9,
    v9 := Tryz.zeroValue9,
    t46 := Tryz.underlying162,
    a46 := Tryz.isAgg162,
    z46 := Tryz.sizeOf162,
    v46 := Tryz.zeroValue162,
    t51 := Tryz.underlying183,
    a51 := Tryz.isAgg183,
    z51 := Tryz.sizeOf183,
    v51 := Tryz.zeroValue183,
    t59 := Tryz.underlying124,
    a59 := Tryz.isAgg124,
    z59 := Tryz.sizeOf124,
    v59 := Tryz.zeroValue124,
    t146 := Tryz.underlying209,
    a146 := Tryz.isAgg209,
    z146 := Tryz.sizeOf209,
    v146 := Tryz.zeroValue209,
    g1 := by kernel_rfl }
def w1j:Go.Shelf.Ren:=⟨fun|207=>173|209=>147|102=>126|n=>n,fun|3=>3|4=>4|9=>9|n=>n,fun|n=>n⟩
theorem v6p : Go.Proofs.Lays.n102 Tryz.prog w1j :=
  { mixed := by kernel_rfl,
    f102 := Tryz.func126.trans (congrArg some (by kernel_rfl)),
    f207 := Tryz.func173.trans (congrArg some (by kernel_rfl)),
    f209 := Tryz.func147.trans (congrArg some (by kernel_rfl)),
    t3 := Tryz.underlying3,
    a3 := Tryz.isAgg3,
    z3 := Tryz.sizeOf3,
    v3 := Tryz.zeroValue3,
    t4 := Tryz.underlying4,
    a4 := Tryz.isAgg4,
    z4 := Tryz.sizeOf4,
    v4 := Tryz.zeroValue4,
    t9 := Tryz.underlying9,
    a9 := Tryz.isAgg9,
    z9 := Tryz.sizeOf9,
    v9 := Tryz.zeroValue9 }
def y64:Go.Shelf.Ren:=⟨fun|266=>190|314=>191|267=>169|224=>168|225=>167|217=>166|260=>203|197=>193|218=>194|195=>192|219=>145|143=>172|138=>171|268=>170|221=>146|146=>125|n=>n,fun|138=>230|139=>231|119=>228|51=>183|146=>209|46=>162|21=>21|105=>212|5=>5|0=>0|4=>4|3=>3|31=>147|9=>9|n=>n,fun|4=>7|3=>6|1=>0|n=>n⟩
theorem w9s : Go.Proofs.Lays.n146 Tryz.prog y64 :=
  { mixed := by kernel_rfl,
    f138 := Tryz.func171.trans (congrArg some (by kernel_rfl)),
    f143 := Tryz.func172.trans (congrArg some (by kernel_rfl)),
    f146 := Tryz.func125.trans (congrArg some (by kernel_rfl)),
    f195 := Tryz.func192.trans (congrArg some (by kernel_rfl)),
    f197 := Tryz.func193.trans (congrArg some (by kernel_rfl)),
    f217 := Tryz.func166.trans (congrArg some (by kernel_rfl)),
    f218 := Tryz.func194.trans (congrArg some (by kernel_rfl)),
    f219 := Tryz.func145.trans (congrArg some (by kernel_rfl)),
    f221 := Tryz.func146.trans (congrArg some (by kernel_rfl)),
    f224 := Tryz.func168.trans (congrArg some (by kernel_rfl)),
    f225 := Tryz.func167.trans (congrArg some (by kernel_rfl)),
    f260 := Tryz.func203.trans (congrArg some (by kernel_rfl)),
    f266 := Tryz.func190.trans (congrArg some (by kernel_rfl)),
    f267 := Tryz.func169.trans (congrArg some (by kernel_rfl)),
    f268 := Tryz.func170.trans (congrArg some (by kernel_rfl)),
    f314 := Tryz.func191.trans (congrArg some (by kernel_rfl)),
    t0 := Tryz.underlying0,
    a0 := Tryz.isAgg0,
    z0 := Tryz.sizeOf0,
    v0 := Tryz.zeroValue0,
    t3 := Tryz.underlying3,
    a3 := Tryz.isAgg3,
    z3 := Tryz.sizeOf3,
    v3 := Tryz.zeroValue3,
    t4 := Tryz.underlying4,
    a4 := Tryz.isAgg4,
    z4 := Tryz.sizeOf4,
    v4 := Tryz.zeroValue4,
    t5 := Tryz.underlying5,
    a5 := Tryz.isAgg5,
    z5 := Tryz.sizeOf5,
    v5 := Tryz.zeroValue5,
    t9 := Tryz.underlying9,
    a9 := Tryz.isAgg9,
    z9 := Tryz.sizeOf9,
    v9 := Tryz.zeroValue9,
    t21 := Tryz.underlying21,
    a21 := Tryz.isAgg21,
    z21 := Tryz.sizeOf21,
    v21 := Tryz.zeroValue21,
    t31 := Tryz.underlying147,
    a31 := Tryz.isAgg147,
    z31 := Tryz.sizeOf147,
    v31 := Tryz.zeroValue147,
    t46 := Tryz.underlying162,
    a46 := Tryz.isAgg162,
    z46 := Tryz.sizeOf162,
    v46 := Tryz.zeroValue162,
    t51 := Tryz.underlying183,
    a51 := Tryz.isAgg183,
    z51 := Tryz.sizeOf183,
    v51 := Tryz.zeroValue183,
    t105 := Tryz.underlying212,
    a105 := Tryz.isAgg212,
    z105 := Tryz.sizeOf212,
    v105 := Tryz.zeroValue212,
    t119 := Tryz.underlying228,
    a119 := Tryz.isAgg228,
    z119 := Tryz.sizeOf228,
    t138 := Tryz.underlying230,
    a138 := Tryz.isAgg230,
    z138 := Tryz.sizeOf230,
    v138 := Tryz.zeroValue230,
    t139 := Tryz.underlying231,
    a139 := Tryz.isAgg231,
    z139 := Tryz.sizeOf231,
    v139 := Tryz.zeroValue231,
    t146 := Tryz.underlying209,
    a146 := Tryz.isAgg209,
    z146 := Tryz.sizeOf209,
    v146 := Tryz.zeroValue209,
    g1 := by kernel_rfl,
    g3 := by kernel_rfl,
    g4 := by kernel_rfl }
end Go.Proofs
end
