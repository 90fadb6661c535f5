/-
  Proved: PanelBooks: for every input the call returns true, and each argument reads afterwards as it read before; there is no condition.
-/
import Derived.Test.YtjlhhpjkmgediaaT5
set_option linter.unusedVariables false
set_option linter.unusedSimpArgs false
set_option linter.unusedSectionVars false
set_option maxRecDepth 100000
set_option maxHeartbeats 0
section
namespace Go.Proofs.Ytjlhhpjkmgediaa
open Go.ChangeShapes Go.WideShapes Go.ChangeAt Go.RowKit Go.Am
theorem v34 {e0:Int} {e1:Int} {e2:Int} {e3:List (List D)} (h:G3 std (e0,e1,e2,e3,())=some (true,())):∃ h',z6e Try.prog 3 (toA [.agg [.int .i64 e0, .int .i64 e1, .int .i64 e2, .list false 3 e3]]) [] (.d (.bool true)) h':=by
 have:=(ok3.2 (e0,e1,e2,e3,()) (true,()) h).2
 exact ⟨_,this⟩
theorem shp3:w4u Try.prog 6 Try.f3.params.toList=true:=by kernel_rfl
theorem rt3:Try.f3.resultTypes=#[Try.f3.resultTypes.getD 0 0]:=by kernel_rfl
theorem rb3:Try.prog.underlying (Try.f3.resultTypes.getD 0 0)=some .bool:=by kernel_rfl
theorem v2i:Try.f3.params.toList.all (fun t=>decide (t<Try.prog.types.size))=true:=by kernel_rfl
set_option maxRecDepth 100000 in
theorem x8t (H:Type) (enc:TypeId×Value→H) (W:World) (base:Nat) (args:Array Value) (ds gs:List (DataW H)) (before:List MemPlace)
  (hval:∀ (j:Nat) t v,Try.f3.params[j]?=some t→args[j]?=some v→Value.okWide Try.prog W .any base t v)
  (hW:DataW.Whole enc Try.prog Try.f3.params.toList Rows.panelBooksSpec.vars false W args.toList ds gs before):
  Calls Try.prog 3 args W fun e W'=>∃ v,e= .returned v∧Rows.panelBooksSpec.post enc Try.prog Try.f3 false true false false W args v W':=by
 have hW':=hW
 obtain ⟨p,q,hA0,hV,rfl,hfz,hnd⟩:=hW
 have hA:DataW.TrodAll enc Try.prog W 0 (fun _=>true) true Try.f3.params.toList args.toList ds p:=hA0
 obtain ⟨xs,h1,h2,h3⟩:=x9b (O:=fun _=>False) (fun _ h=>h) shp3 (x7n hval) hA
 have hd:∃ x0,xs=[x0]∧(∃ ds,x0= .agg ds∧DKs [.int .i64, .int .i64, .int .i64, .list [.int .i64, .int .i64, .int .i64]] ds):=by
  match xs,h1 with
  |[x0],h1=>exact ⟨x0,rfl,h1.1⟩
 obtain ⟨x0,rfl,k0⟩:=hd
 obtain ⟨a0,b0,c0,l0,rfl⟩:=w7p k0
 obtain ⟨h',hr⟩:=v34 (v9e a0 b0 c0 l0)
 exact (y71 hr h2 h3).mono fun e W' ⟨he,hs⟩=>⟨_,he,w04 laid rowed sized v2i rfl rt3 rb3 (fun ds hd=>by
  match ds,hd with
  |[d0],_=>exact ⟨rfl,rfl,rfl⟩) hW' hs⟩
set_option maxRecDepth 100000 in
theorem w5x (os:Os) (started:os.Started) (H:Type) (enc:TypeId×Value→H):
  ReturnsInHanded {} Try.checked os 3 .any (Rows.panelBooksSpec.pre6 enc Try.prog Try.f3 Rows.panelBooksRow.domain false) (Rows.panelBooksSpec.post enc Try.prog Try.f3 false true false false):=by
 refine returnsInHanded_of_change (C:=Try.checked) own started (by kernel_rfl) Try.func3
  (ChangeSpec.witness6 (enc:=enc) (C:=Try.checked) false ⟨#[],#[.agg #[.int .i64 0, .int .i64 0, .int .i64 0, .slice none 0 0]],[]⟩ 8 (by kernel_rfl) (by kernel_rfl) (by kernel_rfl) (by kernel_rfl)) ?_
 intro W base args ds gs before hval hW _ _
 exact x8t H enc W base args ds gs before hval hW
set_option maxRecDepth 100000 in
theorem y3v:Rows.panelBooksRow.holds Try.pinned (OpenSpec.ofChange Rows.panelBooksSpec):=
 OpenClaim.holds_of_wide 3 Try.f3 rfl rfl rfl rfl rfl rfl rfl ⟨rfl,rfl,rfl,rfl,rfl⟩ rfl rfl rfl rfl rfl (by kernel_rfl) Try.func3 (by kernel_rfl)
  (of_decide_eq_true (by kernel_rfl)) (by unfold Func.isWrapper; first|(rw [if_pos (by decide+kernel)]; kernel_rfl)|(rw [if_neg (by decide+kernel)]; exact ⟨rfl,rfl⟩))
  (fun os started H enc _=>w5x os started H enc)
theorem panelBooks_holds:Rows.PanelBooksSaid:=y3v
end Go.Proofs.Ytjlhhpjkmgediaa
end
