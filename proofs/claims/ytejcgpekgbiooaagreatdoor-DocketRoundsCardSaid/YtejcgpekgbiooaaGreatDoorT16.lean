/- Texts of this claim. -/
import Derived.Test.YtejcgpekgbiooaaGreatDoorT15
set_option linter.unusedVariables false
set_option linter.unusedSimpArgs false
set_option linter.unusedSectionVars false
set_option maxRecDepth 100000
set_option maxHeartbeats 0
section
namespace Go.Proofs.YtejcgpekgbiooaaGreatDoor
open Go.ChangeShapes Go.WideShapes Go.ChangeAt Go.RowKit Go.Am
theorem u5k {e0:List (List D)} (h:G8 std (e0,())=some (true,())):∃ h',z2z Tryz.prog 8 (toA [.list false 4 e0]) [] (.d (.bool true)) h':=by
 have:=(ok8.2 (e0,()) (true,()) h).2
 exact ⟨_,this⟩
theorem shp8:w38 Tryz.prog 6 Tryz.f8.params.toList=true:=by kernel_rfl
theorem rt8:Tryz.f8.resultTypes=#[Tryz.f8.resultTypes.getD 0 0]:=by kernel_rfl
theorem rb8:Tryz.prog.underlying (Tryz.f8.resultTypes.getD 0 0)=some .bool:=by kernel_rfl
theorem u3y:Tryz.f8.params.toList.all (fun t=>decide (t<Tryz.prog.types.size))=true:=by kernel_rfl
set_option maxRecDepth 100000 in
theorem v77 (H:Type) (enc:TypeId×Value→H) (W:World) (base:Nat) (args:Array Value) (ds gs:List (DataW H)) (before:List MemPlace)
  (hval:∀ (j:Nat) t v,Tryz.f8.params[j]?=some t→args[j]?=some v→Value.okWide Tryz.prog W .any base t v)
  (hW:DataW.Whole enc Tryz.prog Tryz.f8.params.toList Rows.docketRoundsSpec.vars false W args.toList ds gs before)
  (hL:laidMetH Tryz.prog Rows.docketRoundsRow.laid W) (hsh:W.ShapedOpen Tryz.prog):
  Calls Tryz.prog 8 args W fun e W'=>∃ v,e= .returned v∧Rows.docketRoundsSpec.post enc Tryz.prog Tryz.f8 false true false false W args v W':=by
 have hW':=hW
 obtain ⟨p,q,hA0,hV,rfl,hfz,hnd⟩:=hW
 have hA:DataW.TrodAll enc Tryz.prog W 0 (fun _=>true) true Tryz.f8.params.toList args.toList ds p:=hA0
 obtain ⟨xs,h1,h2,h3⟩:=x9t (O:=fun _=>False) (fun _ h=>h) shp8 (x8f hval) hA
 have hd:∃ x0,xs=[x0]∧(DK (.list [.int .i64, .int .i64, .list [.int .i64], .int .i64]) x0):=by
  match xs,h1 with
  |[x0],h1=>exact ⟨x0,rfl,h1.1⟩
 obtain ⟨x0,rfl,k0⟩:=hd
 obtain ⟨l0,rfl,wf0,wl0⟩:=w2e k0
 obtain ⟨h',hr⟩:=u5k (u8e l0)
 exact (y8s hr h2 h3 (v00 hL hsh)).mono fun e W' ⟨he,hs⟩=>⟨_,he,w08 laid rowed sized u3y rfl rt8 rb8 (fun ds hd=>by
  match ds,hd with
  |[d0],_=>exact ⟨rfl,rfl,rfl⟩) hW' hs⟩
set_option maxRecDepth 100000 in
theorem u0v (os:Os) (started:os.Started) (H:Type) (enc:TypeId×Value→H):
  ReturnsInHanded {} Tryz.checked os 8 .any (fun w args=>(Rows.docketRoundsSpec.pre enc Tryz.prog Tryz.f8 Rows.docketRoundsRow.domain false w args∧laidMetH Tryz.prog Rows.docketRoundsRow.laid w)∧sizedMet enc Tryz.prog Tryz.f8 (OpenSpec.ofChange Rows.docketRoundsSpec) false w args) (Rows.docketRoundsSpec.post enc Tryz.prog Tryz.f8 false true false false):=by
 refine wrap (C:=Tryz.checked) (L:=Rows.docketRoundsRow.laid) own started (by kernel_rfl) Tryz.func8
  (ChangeSpec.witness_shaped (enc:=enc) (C:=Tryz.checked) (os:=os) (X:=fun w _=>laidMetH Tryz.prog Rows.docketRoundsRow.laid w) false (World.laidAll Tryz.prog os Rows.docketRoundsRow.laid) #[.slice none 0 0] 8 (World.laidAll_os _ _ _)
   (World.shaped_of_ZipB (by kernel_rfl) (by kernel_rfl)) (by kernel_rfl) (by kernel_rfl) (by kernel_rfl)
   (w09 (laidMet_laidAll _ (by kernel_rfl) (by kernel_rfl)))) ?_
 intro W base args ds gs before hval hW hL hsh
 exact v77 H enc W base args ds gs before hval hW hL hsh
end Go.Proofs.YtejcgpekgbiooaaGreatDoor
end
