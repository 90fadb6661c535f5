/- Texts of this claim. -/
import Derived.Test.YtejcgpekgbiooaaGreatDoorT15
set_option linter.unusedVariables false
set_option linter.unusedSimpArgs false
set_option linter.unusedSectionVars false
set_option maxRecDepth 100000
set_option maxHeartbeats 0
section
namespace Go.Proofs.YtejcgpekgbiooaaGreatDoor
open Go.ChangeShapes Go.WideShapes Go.ChangeAt Go.RowKit Go.Am
theorem u6e {e0:List (List D)} {e1:List (List D)} (h:G7 std (e0,e1,())=some (true,())):∃ h',z2z Tryz.prog 7 (toA [.list false 4 e0, .list false 1 e1]) [] (.d (.bool true)) h':=by
 have:=(ok7.2 (e0,e1,()) (true,()) h).2
 exact ⟨_,this⟩
theorem shp7:w38 Tryz.prog 6 Tryz.f7.params.toList=true:=by kernel_rfl
theorem rt7:Tryz.f7.resultTypes=#[Tryz.f7.resultTypes.getD 0 0]:=by kernel_rfl
theorem rb7:Tryz.prog.underlying (Tryz.f7.resultTypes.getD 0 0)=some .bool:=by kernel_rfl
theorem u4s:Tryz.f7.params.toList.all (fun t=>decide (t<Tryz.prog.types.size))=true:=by kernel_rfl
set_option maxRecDepth 100000 in
theorem v8c (H:Type) (enc:TypeId×Value→H) (W:World) (base:Nat) (args:Array Value) (ds gs:List (DataW H)) (before:List MemPlace)
  (hval:∀ (j:Nat) t v,Tryz.f7.params[j]?=some t→args[j]?=some v→Value.okWide Tryz.prog W .any base t v)
  (hW:DataW.Whole enc Tryz.prog Tryz.f7.params.toList Rows.docketOneSpec.vars false W args.toList ds gs before)
  (hL:laidMetH Tryz.prog Rows.docketOneRow.laid W) (hsh:W.ShapedOpen Tryz.prog):
  Calls Tryz.prog 7 args W fun e W'=>∃ v,e= .returned v∧Rows.docketOneSpec.post enc Tryz.prog Tryz.f7 false true false false W args v W':=by
 have hW':=hW
 obtain ⟨p,q,hA0,hV,rfl,hfz,hnd⟩:=hW
 have hA:DataW.TrodAll enc Tryz.prog W 0 (fun _=>true) true Tryz.f7.params.toList args.toList ds p:=hA0
 obtain ⟨xs,h1,h2,h3⟩:=x9t (O:=fun _=>False) (fun _ h=>h) shp7 (x8f hval) hA
 have hd:∃ x0 x1,xs=[x0,x1]∧(DK (.list [.int .i64, .int .i64, .list [.int .i64], .int .i64]) x0)∧(DK (.list [.int .u8]) x1):=by
  match xs,h1 with
  |[x0,x1],h1=>exact ⟨x0,x1,rfl,h1.1,h1.2.1⟩
 obtain ⟨x0,x1,rfl,k0,k1⟩:=hd
 obtain ⟨l0,rfl,wf0,wl0⟩:=w2e k0
 obtain ⟨b1,rfl,wf1,wl1⟩:=v9i k1
 obtain ⟨h',hr⟩:=u6e (u9i l0 b1 wf1)
 exact (y8s hr h2 h3 (v00 hL hsh)).mono fun e W' ⟨he,hs⟩=>⟨_,he,w08 laid rowed sized u4s rfl rt7 rb7 (fun ds hd=>by
  match ds,hd with
  |[d0,d1],_=>exact ⟨rfl,rfl,rfl⟩) hW' hs⟩
set_option maxRecDepth 100000 in
theorem u1j (os:Os) (started:os.Started) (H:Type) (enc:TypeId×Value→H):
  ReturnsInHanded {} Tryz.checked os 7 .any (fun w args=>(Rows.docketOneSpec.pre enc Tryz.prog Tryz.f7 Rows.docketOneRow.domain false w args∧laidMetH Tryz.prog Rows.docketOneRow.laid w)∧sizedMet enc Tryz.prog Tryz.f7 (OpenSpec.ofChange Rows.docketOneSpec) false w args) (Rows.docketOneSpec.post enc Tryz.prog Tryz.f7 false true false false):=by
 refine wrap (C:=Tryz.checked) (L:=Rows.docketOneRow.laid) own started (by kernel_rfl) Tryz.func7
  (ChangeSpec.witness_shaped (enc:=enc) (C:=Tryz.checked) (os:=os) (X:=fun w _=>laidMetH Tryz.prog Rows.docketOneRow.laid w) false (World.laidAll Tryz.prog os Rows.docketOneRow.laid) #[.slice none 0 0, .slice none 0 0] 8 (World.laidAll_os _ _ _)
   (World.shaped_of_ZipB (by kernel_rfl) (by kernel_rfl)) (by kernel_rfl) (by kernel_rfl) (by kernel_rfl)
   (w09 (laidMet_laidAll _ (by kernel_rfl) (by kernel_rfl)))) ?_
 intro W base args ds gs before hval hW hL hsh
 exact v8c H enc W base args ds gs before hval hW hL hsh
end Go.Proofs.YtejcgpekgbiooaaGreatDoor
end
