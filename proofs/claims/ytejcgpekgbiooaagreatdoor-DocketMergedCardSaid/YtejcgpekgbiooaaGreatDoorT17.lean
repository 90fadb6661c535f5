/- Texts of this claim. -/
import Derived.Test.YtejcgpekgbiooaaGreatDoorT16
set_option linter.unusedVariables false
set_option linter.unusedSimpArgs false
set_option linter.unusedSectionVars false
set_option maxRecDepth 100000
set_option maxHeartbeats 0
section
namespace Go.Proofs.YtejcgpekgbiooaaGreatDoor
open Go.ChangeShapes Go.WideShapes Go.ChangeAt Go.RowKit Go.Am
theorem u2o {e0:List (List D)} {e1:List (List D)} {e2:Int} (h:G13 std (e0,e1,e2,())=some (true,())):∃ h',z2w Tryz.prog 13 (toA [.list false 4 e0, .list false 1 e1, .int .u8 e2]) [] (.d (.bool true)) h':=by
 have:=(ok13.2 (e0,e1,e2,()) (true,()) h).2
 exact ⟨_,this⟩
theorem u5m:w3u Tryz.prog 6 Tryz.f13.params.toList=true:=by kernel_rfl
theorem rt13:Tryz.f13.resultTypes=#[Tryz.f13.resultTypes.getD 0 0]:=by kernel_rfl
theorem rb13:Tryz.prog.underlying (Tryz.f13.resultTypes.getD 0 0)=some .bool:=by kernel_rfl
theorem u1r:Tryz.f13.params.toList.all (fun t=>decide (t<Tryz.prog.types.size))=true:=by kernel_rfl
set_option maxRecDepth 100000 in
theorem v6n (H:Type) (enc:TypeId×Value→H) (W:World) (base:Nat) (args:Array Value) (ds gs:List (DataW H)) (before:List MemPlace)
  (hval:∀ (j:Nat) t v,Tryz.f13.params[j]?=some t→args[j]?=some v→Value.okWide Tryz.prog W .any base t v)
  (hW:DataW.Whole enc Tryz.prog Tryz.f13.params.toList Rows.docketMergedSpec.vars false W args.toList ds gs before)
  (hL:laidMetH Tryz.prog Rows.docketMergedRow.laid W) (hsh:W.ShapedOpen Tryz.prog):
  Calls Tryz.prog 13 args W fun e W'=>∃ v,e= .returned v∧Rows.docketMergedSpec.post enc Tryz.prog Tryz.f13 false true false false W args v W':=by
 have hW':=hW
 obtain ⟨p,q,hA0,hV,rfl,hfz,hnd⟩:=hW
 have hA:DataW.TrodAll enc Tryz.prog W 0 (fun _=>true) true Tryz.f13.params.toList args.toList ds p:=hA0
 obtain ⟨xs,h1,h2,h3⟩:=x9j (O:=fun _=>False) (fun _ h=>h) u5m (x77 hval) hA
 have hd:∃ x0 x1 x2,xs=[x0,x1,x2]∧(DK (.list [.int .i64, .int .i64, .list [.int .i64], .int .i64]) x0)∧(DK (.list [.int .u8]) x1)∧(DK (.int .u8) x2):=by
  match xs,h1 with
  |[x0,x1,x2],h1=>exact ⟨x0,x1,x2,rfl,h1.1,h1.2.1,h1.2.2.1⟩
 obtain ⟨x0,x1,x2,rfl,k0,k1,k2⟩:=hd
 obtain ⟨l0,rfl,wf0,wl0⟩:=w11 k0
 obtain ⟨b1,rfl,wf1,wl1⟩:=v9a k1
 obtain ⟨n2,rfl,wf2⟩:=u2r k2
 obtain ⟨h',hr⟩:=u2o (u5b l0 b1 n2 wf1 wf2)
 exact (y8k hr h2 h3 (v0k hL hsh)).mono fun e W' ⟨he,hs⟩=>⟨_,he,w0w laid rowed sized u1r rfl rt13 rb13 (fun ds hd=>by
  match ds,hd with
  |[d0,d1,d2],_=>exact ⟨rfl,rfl,rfl⟩) hW' hs⟩
set_option maxRecDepth 100000 in
theorem v8v (os:Os) (started:os.Started) (H:Type) (enc:TypeId×Value→H):
  ReturnsInHanded {} Tryz.checked os 13 .any (fun w args=>(Rows.docketMergedSpec.pre enc Tryz.prog Tryz.f13 Rows.docketMergedRow.domain false w args∧laidMetH Tryz.prog Rows.docketMergedRow.laid w)∧sizedMet enc Tryz.prog Tryz.f13 (OpenSpec.ofChange Rows.docketMergedSpec) false w args) (Rows.docketMergedSpec.post enc Tryz.prog Tryz.f13 false true false false):=by
 refine wrap (C:=Tryz.checked) (L:=Rows.docketMergedRow.laid) own started (by kernel_rfl) Tryz.func13
  (ChangeSpec.witness_shaped (enc:=enc) (C:=Tryz.checked) (os:=os) (X:=fun w _=>laidMetH Tryz.prog Rows.docketMergedRow.laid w) false (World.laidAll Tryz.prog os Rows.docketMergedRow.laid) #[.slice none 0 0, .slice none 0 0, .int .u8 0] 8 (World.laidAll_os _ _ _)
   (World.shaped_of_ZipB (by kernel_rfl) (by kernel_rfl)) (by kernel_rfl) (by kernel_rfl) (by kernel_rfl)
   (w0x (laidMet_laidAll _ (by kernel_rfl) (by kernel_rfl)))) ?_
 intro W base args ds gs before hval hW hL hsh
 exact v6n H enc W base args ds gs before hval hW hL hsh
end Go.Proofs.YtejcgpekgbiooaaGreatDoor
end
