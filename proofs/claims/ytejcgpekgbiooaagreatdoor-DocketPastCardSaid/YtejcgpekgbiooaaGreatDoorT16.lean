/- Texts of this claim. -/
import Derived.Test.YtejcgpekgbiooaaGreatDoorT15
set_option linter.unusedVariables false
set_option linter.unusedSimpArgs false
set_option linter.unusedSectionVars false
set_option maxRecDepth 100000
set_option maxHeartbeats 0
section
namespace Go.Proofs.YtejcgpekgbiooaaGreatDoor
open Go.ChangeShapes Go.WideShapes Go.ChangeAt Go.RowKit Go.Am
theorem walk10 {e0:List (List D)} {e1:Int} {e2:Int} (h:G10 std (e0,e1,e2,())=some (true,())):∃ h',z3r Tryz.prog 10 (toA [.list false 4 e0, .int .u8 e1, .int .u8 e2]) [] (.d (.bool true)) h':=by
 have:=(ok10.2 (e0,e1,e2,()) (true,()) h).2
 exact ⟨_,this⟩
theorem shp10:w5g Tryz.prog 6 Tryz.f10.params.toList=true:=by kernel_rfl
theorem rt10:Tryz.f10.resultTypes=#[Tryz.f10.resultTypes.getD 0 0]:=by kernel_rfl
theorem rb10:Tryz.prog.underlying (Tryz.f10.resultTypes.getD 0 0)=some .bool:=by kernel_rfl
theorem bools10:Tryz.f10.params.toList.all (fun t=>decide (t<Tryz.prog.types.size))=true:=by kernel_rfl
set_option maxRecDepth 100000 in
theorem contract10 (H:Type) (enc:TypeId×Value→H) (W:World) (base:Nat) (args:Array Value) (ds gs:List (DataW H)) (before:List MemPlace)
  (hval:∀ (j:Nat) t v,Tryz.f10.params[j]?=some t→args[j]?=some v→Value.okWide Tryz.prog W .any base t v)
  (hW:DataW.Whole enc Tryz.prog Tryz.f10.params.toList Rows.docketPastSpec.vars false W args.toList ds gs before)
  (hL:laidMetH Tryz.prog Rows.docketPastRow.laid W) (hsh:W.ShapedOpen Tryz.prog):
  Calls Tryz.prog 10 args W fun e W'=>∃ v,e= .returned v∧Rows.docketPastSpec.post enc Tryz.prog Tryz.f10 false true false false W args v W':=by
 have hW':=hW
 obtain ⟨p,q,hA0,hV,rfl,hfz,hnd⟩:=hW
 have hA:DataW.TrodAll enc Tryz.prog W 0 (fun _=>true) true Tryz.f10.params.toList args.toList ds p:=hA0
 obtain ⟨xs,h1,h2,h3⟩:=w0v (O:=fun _=>False) (fun _ h=>h) shp10 (x9f hval) hA
 have hd:∃ x0 x1 x2,xs=[x0,x1,x2]∧(DK (.list [.int .i64, .int .i64, .list [.int .i64], .int .i64]) x0)∧(DK (.int .u8) x1)∧(DK (.int .u8) x2):=by
  match xs,h1 with
  |[x0,x1,x2],h1=>exact ⟨x0,x1,x2,rfl,h1.1,h1.2.1,h1.2.2.1⟩
 obtain ⟨x0,x1,x2,rfl,k0,k1,k2⟩:=hd
 obtain ⟨l0,rfl,wf0,wl0⟩:=w3o k0
 obtain ⟨n1,rfl,wf1⟩:=u8_of k1
 obtain ⟨n2,rfl,wf2⟩:=u8_of k2
 obtain ⟨h',hr⟩:=walk10 (G10_ok l0 n1 n2 wf1 wf2)
 exact (y9d hr h2 h3 (v2d hL hsh)).mono fun e W' ⟨he,hs⟩=>⟨_,he,w18 laid rowed sized bools10 rfl rt10 rb10 (fun ds hd=>by
  match ds,hd with
  |[d0,d1,d2],_=>exact ⟨rfl,rfl,rfl⟩) hW' hs⟩
set_option maxRecDepth 100000 in
theorem lifted10 (os:Os) (started:os.Started) (H:Type) (enc:TypeId×Value→H):
  ReturnsInHanded {} Tryz.checked os 10 .any (fun w args=>(Rows.docketPastSpec.pre enc Tryz.prog Tryz.f10 Rows.docketPastRow.domain false w args∧laidMetH Tryz.prog Rows.docketPastRow.laid w)∧sizedMet enc Tryz.prog Tryz.f10 (OpenSpec.ofChange Rows.docketPastSpec) false w args) (Rows.docketPastSpec.post enc Tryz.prog Tryz.f10 false true false false):=by
 refine wrap (C:=Tryz.checked) (L:=Rows.docketPastRow.laid) own started (by kernel_rfl) Tryz.func10
  (ChangeSpec.witness_shaped (enc:=enc) (C:=Tryz.checked) (os:=os) (X:=fun w _=>laidMetH Tryz.prog Rows.docketPastRow.laid w) false (World.laidAll Tryz.prog os Rows.docketPastRow.laid) #[.slice none 0 0, .int .u8 0, .int .u8 0] 8 (World.laidAll_os _ _ _)
   (World.shaped_of_ZipB (by kernel_rfl) (by kernel_rfl)) (by kernel_rfl) (by kernel_rfl) (by kernel_rfl)
   (w19 (laidMet_laidAll _ (by kernel_rfl) (by kernel_rfl)))) ?_
 intro W base args ds gs before hval hW hL hsh
 exact contract10 H enc W base args ds gs before hval hW hL hsh
end Go.Proofs.YtejcgpekgbiooaaGreatDoor
end
