/- Texts of this claim. -/
import Derived.Test.YtejcgpekgbiooaaGreatDoorT14
set_option linter.unusedVariables false
set_option linter.unusedSimpArgs false
set_option linter.unusedSectionVars false
set_option maxRecDepth 100000
set_option maxHeartbeats 0
section
namespace Go.Proofs.YtejcgpekgbiooaaGreatDoor
open Go.ChangeShapes Go.WideShapes Go.ChangeAt Go.RowKit Go.Am
theorem walk4 {e0:List (List D)} (h:G4 std (e0,())=some (true,())):∃ h',z3r Tryz.prog 4 (toA [.list false 4 e0]) [] (.d (.bool true)) h':=by
 have:=(ok4.2 (e0,()) (true,()) h).2
 exact ⟨_,this⟩
theorem shp4:w5g Tryz.prog 6 Tryz.f4.params.toList=true:=by kernel_rfl
theorem rt4:Tryz.f4.resultTypes=#[Tryz.f4.resultTypes.getD 0 0]:=by kernel_rfl
theorem rb4:Tryz.prog.underlying (Tryz.f4.resultTypes.getD 0 0)=some .bool:=by kernel_rfl
theorem bools4:Tryz.f4.params.toList.all (fun t=>decide (t<Tryz.prog.types.size))=true:=by kernel_rfl
set_option maxRecDepth 100000 in
theorem contract4 (H:Type) (enc:TypeId×Value→H) (W:World) (base:Nat) (args:Array Value) (ds gs:List (DataW H)) (before:List MemPlace)
  (hval:∀ (j:Nat) t v,Tryz.f4.params[j]?=some t→args[j]?=some v→Value.okWide Tryz.prog W .any base t v)
  (hW:DataW.Whole enc Tryz.prog Tryz.f4.params.toList Rows.docketReplaysSpec.vars false W args.toList ds gs before)
  (hL:laidMetH Tryz.prog Rows.docketReplaysRow.laid W) (hsh:W.ShapedOpen Tryz.prog):
  Calls Tryz.prog 4 args W fun e W'=>∃ v,e= .returned v∧Rows.docketReplaysSpec.post enc Tryz.prog Tryz.f4 false true false false W args v W':=by
 have hW':=hW
 obtain ⟨p,q,hA0,hV,rfl,hfz,hnd⟩:=hW
 have hA:DataW.TrodAll enc Tryz.prog W 0 (fun _=>true) true Tryz.f4.params.toList args.toList ds p:=hA0
 obtain ⟨xs,h1,h2,h3⟩:=w0v (O:=fun _=>False) (fun _ h=>h) shp4 (x9f hval) hA
 have hd:∃ x0,xs=[x0]∧(DK (.list [.int .i64, .int .i64, .list [.int .i64], .int .i64]) x0):=by
  match xs,h1 with
  |[x0],h1=>exact ⟨x0,rfl,h1.1⟩
 obtain ⟨x0,rfl,k0⟩:=hd
 obtain ⟨l0,rfl,wf0,wl0⟩:=w3o k0
 obtain ⟨h',hr⟩:=walk4 (G4_ok l0)
 exact (y9d hr h2 h3 (v2d hL hsh)).mono fun e W' ⟨he,hs⟩=>⟨_,he,w18 laid rowed sized bools4 rfl rt4 rb4 (fun ds hd=>by
  match ds,hd with
  |[d0],_=>exact ⟨rfl,rfl,rfl⟩) hW' hs⟩
set_option maxRecDepth 100000 in
theorem lifted4 (os:Os) (started:os.Started) (H:Type) (enc:TypeId×Value→H):
  ReturnsInHanded {} Tryz.checked os 4 .any (fun w args=>(Rows.docketReplaysSpec.pre enc Tryz.prog Tryz.f4 Rows.docketReplaysRow.domain false w args∧laidMetH Tryz.prog Rows.docketReplaysRow.laid w)∧sizedMet enc Tryz.prog Tryz.f4 (OpenSpec.ofChange Rows.docketReplaysSpec) false w args) (Rows.docketReplaysSpec.post enc Tryz.prog Tryz.f4 false true false false):=by
 refine wrap (C:=Tryz.checked) (L:=Rows.docketReplaysRow.laid) own started (by kernel_rfl) Tryz.func4
  (ChangeSpec.witness_shaped (enc:=enc) (C:=Tryz.checked) (os:=os) (X:=fun w _=>laidMetH Tryz.prog Rows.docketReplaysRow.laid w) false (World.laidAll Tryz.prog os Rows.docketReplaysRow.laid) #[.slice none 0 0] 8 (World.laidAll_os _ _ _)
   (World.shaped_of_ZipB (by kernel_rfl) (by kernel_rfl)) (by kernel_rfl) (by kernel_rfl) (by kernel_rfl)
   (w19 (laidMet_laidAll _ (by kernel_rfl) (by kernel_rfl)))) ?_
 intro W base args ds gs before hval hW hL hsh
 exact contract4 H enc W base args ds gs before hval hW hL hsh
end Go.Proofs.YtejcgpekgbiooaaGreatDoor
end
