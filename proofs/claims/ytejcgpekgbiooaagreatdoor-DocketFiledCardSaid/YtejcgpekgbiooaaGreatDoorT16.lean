/- Texts of this claim. -/
import Derived.Test.YtejcgpekgbiooaaGreatDoorT15
set_option linter.unusedVariables false
set_option linter.unusedSimpArgs false
set_option linter.unusedSectionVars false
set_option maxRecDepth 100000
set_option maxHeartbeats 0
section
namespace Go.Proofs.YtejcgpekgbiooaaGreatDoor
open Go.ChangeShapes Go.WideShapes Go.ChangeAt Go.RowKit Go.Am
theorem v5t {e0:List (List D)} {e1:ByteArray} {e2:Int} (h:G11 std (e0,e1,e2,())=some (true,())):∃ h',z2z Tryz.prog 11 (toA [.list false 4 e0, .str e1, .int .u8 e2]) [] (.d (.bool true)) h':=by
 have:=(ok11.2 (e0,e1,e2,()) (true,()) h).2
 exact ⟨_,this⟩
theorem v6d:w38 Tryz.prog 6 Tryz.f11.params.toList=true:=by kernel_rfl
theorem rt11:Tryz.f11.resultTypes=#[Tryz.f11.resultTypes.getD 0 0]:=by kernel_rfl
theorem rb11:Tryz.prog.underlying (Tryz.f11.resultTypes.getD 0 0)=some .bool:=by kernel_rfl
theorem v5n:Tryz.f11.params.toList.all (fun t=>decide (t<Tryz.prog.types.size))=true:=by kernel_rfl
set_option maxRecDepth 100000 in
theorem v3s (H:Type) (enc:TypeId×Value→H) (W:World) (base:Nat) (args:Array Value) (ds gs:List (DataW H)) (before:List MemPlace)
  (hval:∀ (j:Nat) t v,Tryz.f11.params[j]?=some t→args[j]?=some v→Value.okWide Tryz.prog W .any base t v)
  (hW:DataW.Whole enc Tryz.prog Tryz.f11.params.toList Rows.docketFiledSpec.vars false W args.toList ds gs before)
  (hL:laidMetH Tryz.prog Rows.docketFiledRow.laid W) (hsh:W.ShapedOpen Tryz.prog):
  Calls Tryz.prog 11 args W fun e W'=>∃ v,e= .returned v∧Rows.docketFiledSpec.post enc Tryz.prog Tryz.f11 false true false false W args v W':=by
 have hW':=hW
 obtain ⟨p,q,hA0,hV,rfl,hfz,hnd⟩:=hW
 have hA:DataW.TrodAll enc Tryz.prog W 0 (fun _=>true) true Tryz.f11.params.toList args.toList ds p:=hA0
 obtain ⟨xs,h1,h2,h3⟩:=x9t (O:=fun _=>False) (fun _ h=>h) v6d (x8f hval) hA
 have hd:∃ x0 x1 x2,xs=[x0,x1,x2]∧(DK (.list [.int .i64, .int .i64, .list [.int .i64], .int .i64]) x0)∧(DK .str x1)∧(DK (.int .u8) x2):=by
  match xs,h1 with
  |[x0,x1,x2],h1=>exact ⟨x0,x1,x2,rfl,h1.1,h1.2.1,h1.2.2.1⟩
 obtain ⟨x0,x1,x2,rfl,k0,k1,k2⟩:=hd
 obtain ⟨l0,rfl,wf0,wl0⟩:=w2e k0
 obtain ⟨s1,rfl,wl1⟩:=v5w k1
 obtain ⟨n2,rfl,wf2⟩:=v6c k2
 obtain ⟨h',hr⟩:=v5t (v59 l0 s1 n2 wl1 wf2)
 exact (y8s hr h2 h3 (v00 hL hsh)).mono fun e W' ⟨he,hs⟩=>⟨_,he,w08 laid rowed sized v5n rfl rt11 rb11 (fun ds hd=>by
  match ds,hd with
  |[d0,d1,d2],_=>exact ⟨rfl,rfl,rfl⟩) hW' hs⟩
set_option maxRecDepth 100000 in
theorem v4m (os:Os) (started:os.Started) (H:Type) (enc:TypeId×Value→H):
  ReturnsInHanded {} Tryz.checked os 11 .any (fun w args=>(Rows.docketFiledSpec.pre enc Tryz.prog Tryz.f11 Rows.docketFiledRow.domain false w args∧laidMetH Tryz.prog Rows.docketFiledRow.laid w)∧sizedMet enc Tryz.prog Tryz.f11 (OpenSpec.ofChange Rows.docketFiledSpec) false w args) (Rows.docketFiledSpec.post enc Tryz.prog Tryz.f11 false true false false):=by
 refine wrap (C:=Tryz.checked) (L:=Rows.docketFiledRow.laid) own started (by kernel_rfl) Tryz.func11
  (ChangeSpec.witness_shaped (enc:=enc) (C:=Tryz.checked) (os:=os) (X:=fun w _=>laidMetH Tryz.prog Rows.docketFiledRow.laid w) false (World.laidAll Tryz.prog os Rows.docketFiledRow.laid) #[.slice none 0 0, .string .empty, .int .u8 0] 8 (World.laidAll_os _ _ _)
   (World.shaped_of_ZipB (by kernel_rfl) (by kernel_rfl)) (by kernel_rfl) (by kernel_rfl) (by kernel_rfl)
   (w09 (laidMet_laidAll _ (by kernel_rfl) (by kernel_rfl)))) ?_
 intro W base args ds gs before hval hW hL hsh
 exact v3s H enc W base args ds gs before hval hW hL hsh
end Go.Proofs.YtejcgpekgbiooaaGreatDoor
end
