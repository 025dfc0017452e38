/-
  The law FnNodes: a node answers with what it has produced or cached; a crash loses nothing that it has produced. Its statement.
-/
import Derived.Test.YtjhfdpopkkmigaaGreatLawNodes
set_option linter.unusedVariables false
set_option linter.unusedSimpArgs false
set_option linter.unnecessarySimpa false
set_option maxRecDepth 100000
set_option maxHeartbeats 40000000
namespace Go.Proofs.YtjhfdpopkkmigaaGreat
open Go.ChangeShapes Go.WideShapes Go.ChangeAt Go.RowKit _root_.Go.Proofs.Tryz
theorem lawFnNodes_lifted (os:Os) (D:os.Started) (H:Type) (enc:TypeId × Value->H) :
    ReturnsInHanded {} checked os 3 .any (Rows.fnNodesSpec.pre6 enc prog f3 Rows.fnNodesRow.domain false) (Rows.fnNodesSpec.post enc prog f3 false true false false):=by
 refine returnsInHanded_of_change (C:=checked) law_own D bC5 func3
   (ChangeSpec.witness6 (enc:=enc) (C:=checked) false ⟨#[],#[.slice none 0 0],[]⟩ 8 bC5 bC5 bC5 bC5) ?_
 intro W N args ds E o G hW _ _
 have F:∀ (j:Nat) t v,f3.params[j]?=some t->args[j]?=some v->Value.okWide prog W .any N t v:=G
 have R:DataW.Whole enc prog f3.params.toList Rows.fnNodesSpec.vars false W args.toList ds E o:=hW
 obtain ⟨p,q,I,hV,rfl,ah,X⟩:=hW
 have hA:DataW.TrodAll enc prog W 0 (λ_=>true) true f3.params.toList args.toList ds p:=I
 rw [params3] at hA F
 obtain ⟨v0,ab,Z,aa,p0,V,U,rfl,rfl,g0,s0⟩:=trodAll_cons hA
 obtain ⟨rfl,rfl,rfl⟩:=trodAll_nil s0
 obtain rfl:args=#[v0]:=by cases args;simp_all
 obtain ⟨rfl,rfl⟩:=trodVars_none hV
 obtain ⟨a0,L,J,rfl⟩:=okWide_slice underlying22 (F 0 22 v0 rfl rfl)
 obtain ⟨Y,eu⟩:=g0
 obtain ⟨x0,h0⟩:=jAu (w:=W) eu
 have h0:(kD.slice 5 kD.byte).raw W [.slice a0 L J] x0:=by simpa [Value.cells] using h0
 refine (jAm h0).mono λe W' ⟨he,hb⟩=>?_
 subst he
 refine ⟨_,rfl,law_post (tb:=4) R rfl rfl underlying4 ⟨rfl,rfl,rfl⟩ ?_ hb⟩
 rw [params3]
 intro t ht
 have O:([22].all λt=>prog.readableRec t && decide (t < prog.types.size))=true:=bC5
 have h1:=List.all_eq_true.1 O t ht
 simpa using h1
theorem kQg:Tryz.pinned.checked.prog.funcNamed Rows.fnNodesRow.func=some 3:=by kernel_rfl
theorem kQf:joinedFacts Tryz.pinned.checked.prog 3 f3 Rows.fnNodesSpec Rows.fnNodesRow=true:=by
 unfold joinedFacts;repeat' (with_reducible refine Bool.and_eq_true_iff.2 (And.intro ?_ ?_))
 all_goals decide +kernel
theorem kSw:f3.isInstance Tryz.pinned.checked.prog Rows.fnNodesRow.origin Rows.fnNodesRow.targs:=of_decide_eq_true bC5
theorem kSv:f3.isWrapper Tryz.pinned.checked.prog Rows.fnNodesRow.wrapper Rows.fnNodesRow.mainSum:=by unfold Func.isWrapper;first|(rw [if_pos (by decide +kernel)];kernel_rfl)|(rw [if_neg (by decide +kernel)];exact ⟨rfl,rfl⟩)
theorem lawFnNodes_holds : Rows.FnNodesSaid :=
  OpenClaim.holds_of_wide 3 f3 rfl rfl rfl rfl rfl rfl rfl ⟨rfl, rfl, rfl, rfl, rfl⟩ rfl rfl rfl rfl rfl kQg func3 kQf kSw kSv
    (λos D H enc _ => lawFnNodes_lifted os D H enc)
end Go.Proofs.YtjhfdpopkkmigaaGreat
