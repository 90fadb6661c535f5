/- Texts of this claim. -/
import Derived.Test.YtejcgpekgbiooaaGreatDoorZT14
set_option linter.all false
set_option maxRecDepth 100000
set_option maxHeartbeats 0
open Go.DataW renaming TrodAll→eCx
section
namespace Go.Proofs.YtejcgpekgbiooaaGreatDoor
open Go.ChangeShapes Go.WideShapes Go.ChangeAt Go.RowKit Go.Am
theorem v9r {c:List (List D)} {b:List (List D)} {a:List (List D)} (h:G12 std (c,b,a,())=some (true,())):∃ h',z3s Tryz.prog 12 (toA [.list false 4 c, .list false 4 b, .list false 1 a]) [] (.d (.bool true)) h':=by
 have:=(ok12.2 (c,b,a,()) (true,()) h).2
 exact ⟨_,this⟩
theorem u8o:v5h Tryz.prog 6 Tryz.f12.params.toList=true:=by kernel_rfl
theorem rt12:Tryz.f12.resultTypes=#[Tryz.f12.resultTypes.getD 0 0]:=by kernel_rfl
theorem rb12:Tryz.prog.underlying (Tryz.f12.resultTypes.getD 0 0)=some .bool:=by kernel_rfl
theorem v8f:Tryz.f12.params.toList.all (fun t=>decide (t<Tryz.prog.types.size))=true:=by kernel_rfl
set_option maxRecDepth 100000 in
theorem w13 (H:Type) (enc:TypeId×Value→H) (W:World) (base:Nat) (args:Array Value) (ds gs:List (DataW H)) (before:List MemPlace)
  (hval:∀ (j:Nat) t v,Tryz.f12.params[j]?=some t→args[j]?=some v→Value.okWide Tryz.prog W .any base t v)
  (hW:DataW.Whole enc Tryz.prog Tryz.f12.params.toList Rows.docketMergesSpec.vars false W args.toList ds gs before)
  (hL:laidMetH Tryz.prog Rows.docketMergesRow.laid W) (hsh:W.ShapedOpen Tryz.prog):
  Calls Tryz.prog 12 args W fun e W'=>∃ v,e= .returned v∧Rows.docketMergesSpec.post enc Tryz.prog Tryz.f12 false true false false W args v W':=by
 have hW':=hW
 obtain ⟨p,q,hA0,hV,rfl,hfz,hnd⟩:=hW
 have hA:eCx enc Tryz.prog W 0 (fun _=>true) true Tryz.f12.params.toList args.toList ds p:=hA0
 obtain ⟨xs,h1,h2,h3⟩:=w7d (O:=fun _=>False) (fun _ h=>h) u8o (w5f hval) hA
 have hd:∃ x0 x1 x2,xs=[x0,x1,x2]∧(DK (.list [.int .i64, .int .i64, .list [.int .i64], .int .i64]) x0)∧(DK (.list [.int .i64, .int .i64, .list [.int .i64], .int .i64]) x1)∧(DK (.list [.int .i64]) x2):=by
  match xs,h1 with
  |[x0,x1,x2],h1=>exact ⟨x0,x1,x2,rfl,h1.1,h1.2.1,h1.2.2.1⟩
 obtain ⟨x0,x1,x2,rfl,k0,k1,k2⟩:=hd
 obtain ⟨l0,rfl,wf0,wl0⟩:=x97 k0
 obtain ⟨l1,rfl,wf1,wl1⟩:=x97 k1
 obtain ⟨l2,rfl,wf2,wl2⟩:=w5a k2
 obtain ⟨h',hr⟩:=v9r (u6z l0 l1 l2)
 exact (x19 hr h2 h3 (t1l hL hsh)).mono fun e W' ⟨he,hs⟩=>⟨_,he,w9t laid rowed sized v8f rfl rt12 rb12 (fun ds hd=>by
  match ds,hd with
  |[d0,d1,d2],_=>exact ⟨rfl,rfl,rfl⟩) hW' hs⟩
set_option maxRecDepth 100000 in
theorem w9p (os:Os) (started:os.Started) (H:Type) (enc:TypeId×Value→H):
  ReturnsInHanded {} Tryz.checked os 12 .any (fun w args=>(Rows.docketMergesSpec.pre enc Tryz.prog Tryz.f12 Rows.docketMergesRow.domain false w args∧laidMetH Tryz.prog Rows.docketMergesRow.laid w)∧sizedMet enc Tryz.prog Tryz.f12 (OpenSpec.ofChange Rows.docketMergesSpec) false w args) (Rows.docketMergesSpec.post enc Tryz.prog Tryz.f12 false true false false):=by
 refine wrap (C:=Tryz.checked) (L:=Rows.docketMergesRow.laid) own started (by kernel_rfl) Tryz.func12
  (ChangeSpec.witness_shaped (enc:=enc) (C:=Tryz.checked) (os:=os) (X:=fun w _=>laidMetH Tryz.prog Rows.docketMergesRow.laid w) false (World.laidAll Tryz.prog os Rows.docketMergesRow.laid) #[.slice none 0 0, .slice none 0 0, .slice none 0 0] 8 (World.laidAll_os _ _ _)
   (World.shaped_of_ZipB (by kernel_rfl) (by kernel_rfl)) (by kernel_rfl) (by kernel_rfl) (by kernel_rfl)
   (w9u (laidMet_laidAll _ (by kernel_rfl) (by kernel_rfl)))) ?_
 intro W base args ds gs before hval hW hL hsh
 exact w13 H enc W base args ds gs before hval hW hL hsh
end Go.Proofs.YtejcgpekgbiooaaGreatDoor
end
