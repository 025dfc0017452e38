/-
  The law FnTicksNode: its statement.
-/
import Derived.Test.YtonmjkmaadgceabGreatLawTicksNode
set_option linter.unusedVariables false
set_option linter.unusedSimpArgs false
set_option linter.unnecessarySimpa false
set_option maxRecDepth 100000
set_option maxHeartbeats 40000000
namespace Go.Proofs.YtonmjkmaadgceabGreat
open Go.ChangeShapes Go.WideShapes Go.ChangeAt Go.RowKit _root_.Go.Proofs.Tryz
theorem lawFnTicksNode_lifted (os:Os) (D:os.Started) (H:Type) (enc:TypeId × Value->H) :
    ReturnsInHanded {} checked os 3 .any (Rows.fnTicksNodeSpec.pre6 enc prog f3 Rows.fnTicksNodeRow.domain false) (Rows.fnTicksNodeSpec.post enc prog f3 false true false false):=by
 refine returnsInHanded_of_change (C:=checked) law_own D bC3 func3
   (ChangeSpec.witness6 (enc:=enc) (C:=checked) false ⟨#[],#[.slice none 0 0],[]⟩ 8 bC3 bC3 bC3 bC3) ?_
 intro W O args ds E o J hW _ _
 have F:∀ (j:Nat) t v,f3.params[j]?=some t->args[j]?=some v->Value.okWide prog W .any O t v:=J
 have R:DataW.Whole enc prog f3.params.toList Rows.fnTicksNodeSpec.vars false W args.toList ds E o:=hW
 obtain ⟨p,q,I,hV,rfl,ah,V⟩:=hW
 have hA:DataW.TrodAll enc prog W 0 (λ_=>true) true f3.params.toList args.toList ds p:=I
 rw [params3] at hA F
 obtain ⟨v0,ac,Y,ab,Z,X,U,rfl,rfl,g0,s0⟩:=trodAll_cons hA
 obtain ⟨rfl,rfl,rfl⟩:=trodAll_nil s0
 obtain rfl:args=#[v0]:=by cases args;simp_all
 obtain ⟨rfl,rfl⟩:=trodVars_none hV
 obtain ⟨a0,N,L,rfl⟩:=okWide_slice underlying22 (F 0 22 v0 rfl rfl)
 obtain ⟨aa,e8⟩:=g0
 obtain ⟨x0,h0⟩:=jAf (w:=W) e8
 have h0:(kD.slice 5 kD.byte).raw W [.slice a0 N L] x0:=by simpa [Value.cells] using h0
 refine (kPz h0).mono λe W' ⟨he,hb⟩=>?_
 subst he
 refine ⟨_,rfl,law_post (tb:=4) R rfl rfl underlying4 ⟨rfl,rfl,rfl⟩ ?_ hb⟩
 rw [params3]
 intro t ht
 have G:([22].all λt=>prog.readableRec t && decide (t < prog.types.size))=true:=bC3
 have h1:=List.all_eq_true.1 G t ht
 simpa using h1
theorem kKs:Tryz.pinned.checked.prog.funcNamed Rows.fnTicksNodeRow.func=some 3:=by kernel_rfl
theorem kKr:joinedFacts Tryz.pinned.checked.prog 3 f3 Rows.fnTicksNodeSpec Rows.fnTicksNodeRow=true:=by
 unfold joinedFacts;repeat' (with_reducible refine Bool.and_eq_true_iff.2 (And.intro ?_ ?_))
 all_goals decide +kernel
theorem kLz:f3.isInstance Tryz.pinned.checked.prog Rows.fnTicksNodeRow.origin Rows.fnTicksNodeRow.targs:=of_decide_eq_true bC3
theorem kLy:f3.isWrapper Tryz.pinned.checked.prog Rows.fnTicksNodeRow.wrapper Rows.fnTicksNodeRow.mainSum:=by unfold Func.isWrapper;first|(rw [if_pos (by decide +kernel)];kernel_rfl)|(rw [if_neg (by decide +kernel)];exact ⟨rfl,rfl⟩)
theorem lawFnTicksNode_holds : Rows.FnTicksNodeSaid :=
  OpenClaim.holds_of_wide 3 f3 rfl rfl rfl rfl rfl rfl rfl ⟨rfl, rfl, rfl, rfl, rfl⟩ rfl rfl rfl rfl rfl kKs func3 kKr kLz kLy
    (λos D H enc _ => lawFnTicksNode_lifted os D H enc)
end Go.Proofs.YtonmjkmaadgceabGreat
