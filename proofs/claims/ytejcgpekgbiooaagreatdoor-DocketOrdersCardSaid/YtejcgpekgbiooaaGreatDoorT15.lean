/- Texts of this claim. -/
import Derived.Test.YtejcgpekgbiooaaGreatDoorT14
set_option linter.unusedVariables false
set_option linter.unusedSimpArgs false
set_option linter.unusedSectionVars false
set_option maxRecDepth 100000
set_option maxHeartbeats 0
section
namespace Go.Proofs.YtejcgpekgbiooaaGreatDoor
open Go.ChangeShapes Go.WideShapes Go.ChangeAt Go.RowKit Go.Am
theorem u5j {c:List (List D)} {b:List (List D)} {a:Int} (h:G5 std (c,b,a,())=some (true,())):∃ h',z3m Tryz.prog 5 (toA [.list false 4 c, .list false 4 b, .int .i64 a]) [] (.d (.bool true)) h':=by
 have:=(ok5.2 (c,b,a,()) (true,()) h).2
 exact ⟨_,this⟩
theorem shp5:v4s Tryz.prog 6 Tryz.f5.params.toList=true:=by kernel_rfl
theorem rt5:Tryz.f5.resultTypes=#[Tryz.f5.resultTypes.getD 0 0]:=by kernel_rfl
theorem rb5:Tryz.prog.underlying (Tryz.f5.resultTypes.getD 0 0)=some .bool:=by kernel_rfl
theorem u2j:Tryz.f5.params.toList.all (fun t=>decide (t<Tryz.prog.types.size))=true:=by kernel_rfl
set_option maxRecDepth 100000 in
theorem w6j (H:Type) (enc:TypeId×Value→H) (W:World) (base:Nat) (args:Array Value) (ds gs:List (DataW H)) (before:List MemPlace)
  (hval:∀ (j:Nat) t v,Tryz.f5.params[j]?=some t→args[j]?=some v→Value.okWide Tryz.prog W .any base t v)
  (hW:DataW.Whole enc Tryz.prog Tryz.f5.params.toList Rows.docketOrdersSpec.vars false W args.toList ds gs before)
  (hL:laidMetH Tryz.prog Rows.docketOrdersRow.laid W) (hsh:W.ShapedOpen Tryz.prog):
  Calls Tryz.prog 5 args W fun e W'=>∃ v,e= .returned v∧Rows.docketOrdersSpec.post enc Tryz.prog Tryz.f5 false true false false W args v W':=by
 have hW':=hW
 obtain ⟨p,q,hA0,hV,rfl,hfz,hnd⟩:=hW
 have hA:DataW.TrodAll enc Tryz.prog W 0 (fun _=>true) true Tryz.f5.params.toList args.toList ds p:=hA0
 obtain ⟨xs,h1,h2,h3⟩:=w7m (O:=fun _=>False) (fun _ h=>h) shp5 (w5l hval) hA
 have hd:∃ x0 x1 x2,xs=[x0,x1,x2]∧(DK (.list [.int .i64, .int .i64, .list [.int .i64], .int .i64]) x0)∧(DK (.list [.int .i64, .int .i64, .list [.int .i64], .int .i64]) x1)∧(DK (.int .i64) x2):=by
  match xs,h1 with
  |[x0,x1,x2],h1=>exact ⟨x0,x1,x2,rfl,h1.1,h1.2.1,h1.2.2.1⟩
 obtain ⟨x0,x1,x2,rfl,k0,k1,k2⟩:=hd
 obtain ⟨l0,rfl,wf0,wl0⟩:=w0d k0
 obtain ⟨l1,rfl,wf1,wl1⟩:=w0d k1
 obtain ⟨n2,rfl,wf2⟩:=x4d k2
 obtain ⟨h',hr⟩:=u5j (t1g l0 l1 n2)
 exact (x2c hr h2 h3 (u8e hL hsh)).mono fun e W' ⟨he,hs⟩=>⟨_,he,w9p laid rowed sized u2j rfl rt5 rb5 (fun ds hd=>by
  match ds,hd with
  |[d0,d1,d2],_=>exact ⟨rfl,rfl,rfl⟩) hW' hs⟩
set_option maxRecDepth 100000 in
theorem v5s (os:Os) (started:os.Started) (H:Type) (enc:TypeId×Value→H):
  ReturnsInHanded {} Tryz.checked os 5 .any (fun w args=>(Rows.docketOrdersSpec.pre enc Tryz.prog Tryz.f5 Rows.docketOrdersRow.domain false w args∧laidMetH Tryz.prog Rows.docketOrdersRow.laid w)∧sizedMet enc Tryz.prog Tryz.f5 (OpenSpec.ofChange Rows.docketOrdersSpec) false w args) (Rows.docketOrdersSpec.post enc Tryz.prog Tryz.f5 false true false false):=by
 refine wrap (C:=Tryz.checked) (L:=Rows.docketOrdersRow.laid) own started (by kernel_rfl) Tryz.func5
  (ChangeSpec.witness_shaped (enc:=enc) (C:=Tryz.checked) (os:=os) (X:=fun w _=>laidMetH Tryz.prog Rows.docketOrdersRow.laid w) false (World.laidAll Tryz.prog os Rows.docketOrdersRow.laid) #[.slice none 0 0, .slice none 0 0, .int .i64 0] 8 (World.laidAll_os _ _ _)
   (World.shaped_of_ZipB (by kernel_rfl) (by kernel_rfl)) (by kernel_rfl) (by kernel_rfl) (by kernel_rfl)
   (w9q (laidMet_laidAll _ (by kernel_rfl) (by kernel_rfl)))) ?_
 intro W base args ds gs before hval hW hL hsh
 exact w6j H enc W base args ds gs before hval hW hL hsh
end Go.Proofs.YtejcgpekgbiooaaGreatDoor
end
