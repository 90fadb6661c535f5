/- Texts of this claim. -/
import Derived.Test.YtejcgpekgbiooaaGreatDoorT15
set_option linter.unusedVariables false
set_option linter.unusedSimpArgs false
set_option linter.unusedSectionVars false
set_option maxRecDepth 100000
set_option maxHeartbeats 0
section
namespace Go.Proofs.YtejcgpekgbiooaaGreatDoor
open Go.ChangeShapes Go.WideShapes Go.ChangeAt Go.RowKit Go.Am
theorem v8c {e0:List (List D)} {e1:ByteArray} (h:G6 std (e0,e1,())=some (true,())):∃ h',z2z Tryz.prog 6 (toA [.list false 4 e0, .str e1]) [] (.d (.bool true)) h':=by
 have:=(ok6.2 (e0,e1,()) (true,()) h).2
 exact ⟨_,this⟩
theorem shp6:w38 Tryz.prog 6 Tryz.f6.params.toList=true:=by kernel_rfl
theorem rt6:Tryz.f6.resultTypes=#[Tryz.f6.resultTypes.getD 0 0]:=by kernel_rfl
theorem rb6:Tryz.prog.underlying (Tryz.f6.resultTypes.getD 0 0)=some .bool:=by kernel_rfl
theorem v71:Tryz.f6.params.toList.all (fun t=>decide (t<Tryz.prog.types.size))=true:=by kernel_rfl
set_option maxRecDepth 100000 in
theorem v5o (H:Type) (enc:TypeId×Value→H) (W:World) (base:Nat) (args:Array Value) (ds gs:List (DataW H)) (before:List MemPlace)
  (hval:∀ (j:Nat) t v,Tryz.f6.params[j]?=some t→args[j]?=some v→Value.okWide Tryz.prog W .any base t v)
  (hW:DataW.Whole enc Tryz.prog Tryz.f6.params.toList Rows.docketFilesSpec.vars false W args.toList ds gs before)
  (hL:laidMetH Tryz.prog Rows.docketFilesRow.laid W) (hsh:W.ShapedOpen Tryz.prog):
  Calls Tryz.prog 6 args W fun e W'=>∃ v,e= .returned v∧Rows.docketFilesSpec.post enc Tryz.prog Tryz.f6 false true false false W args v W':=by
 have hW':=hW
 obtain ⟨p,q,hA0,hV,rfl,hfz,hnd⟩:=hW
 have hA:DataW.TrodAll enc Tryz.prog W 0 (fun _=>true) true Tryz.f6.params.toList args.toList ds p:=hA0
 obtain ⟨xs,h1,h2,h3⟩:=x9t (O:=fun _=>False) (fun _ h=>h) shp6 (x8f hval) hA
 have hd:∃ x0 x1,xs=[x0,x1]∧(DK (.list [.int .i64, .int .i64, .list [.int .i64], .int .i64]) x0)∧(DK .str x1):=by
  match xs,h1 with
  |[x0,x1],h1=>exact ⟨x0,x1,rfl,h1.1,h1.2.1⟩
 obtain ⟨x0,x1,rfl,k0,k1⟩:=hd
 obtain ⟨l0,rfl,wf0,wl0⟩:=w2e k0
 obtain ⟨s1,rfl,wl1⟩:=v7i k1
 obtain ⟨h',hr⟩:=v8c (v86 l0 s1 wl1)
 exact (y8s hr h2 h3 (v00 hL hsh)).mono fun e W' ⟨he,hs⟩=>⟨_,he,w08 laid rowed sized v71 rfl rt6 rb6 (fun ds hd=>by
  match ds,hd with
  |[d0,d1],_=>exact ⟨rfl,rfl,rfl⟩) hW' hs⟩
set_option maxRecDepth 100000 in
theorem v66 (os:Os) (started:os.Started) (H:Type) (enc:TypeId×Value→H):
  ReturnsInHanded {} Tryz.checked os 6 .any (fun w args=>(Rows.docketFilesSpec.pre enc Tryz.prog Tryz.f6 Rows.docketFilesRow.domain false w args∧laidMetH Tryz.prog Rows.docketFilesRow.laid w)∧sizedMet enc Tryz.prog Tryz.f6 (OpenSpec.ofChange Rows.docketFilesSpec) false w args) (Rows.docketFilesSpec.post enc Tryz.prog Tryz.f6 false true false false):=by
 refine wrap (C:=Tryz.checked) (L:=Rows.docketFilesRow.laid) own started (by kernel_rfl) Tryz.func6
  (ChangeSpec.witness_shaped (enc:=enc) (C:=Tryz.checked) (os:=os) (X:=fun w _=>laidMetH Tryz.prog Rows.docketFilesRow.laid w) false (World.laidAll Tryz.prog os Rows.docketFilesRow.laid) #[.slice none 0 0, .string .empty] 8 (World.laidAll_os _ _ _)
   (World.shaped_of_ZipB (by kernel_rfl) (by kernel_rfl)) (by kernel_rfl) (by kernel_rfl) (by kernel_rfl)
   (w09 (laidMet_laidAll _ (by kernel_rfl) (by kernel_rfl)))) ?_
 intro W base args ds gs before hval hW hL hsh
 exact v5o H enc W base args ds gs before hval hW hL hsh
end Go.Proofs.YtejcgpekgbiooaaGreatDoor
end
