/-
  The law FnHearsWant: an interest is answered, aggregated, or forwarded with a lower hop limit, never through its own face; a loop is stopped. Its statement.
-/
import Derived.Test.YthocbplmdjkifaaGreatLawHearsWant
set_option linter.unusedVariables false
set_option linter.unusedSimpArgs false
set_option linter.unnecessarySimpa false
set_option maxRecDepth 100000
set_option maxHeartbeats 40000000
namespace Go.Proofs.YthocbplmdjkifaaGreat
open Go.ChangeShapes Go.WideShapes Go.ChangeAt Go.RowKit _root_.Go.Proofs.Tryz
theorem lawFnHearsWant_lifted (os:Os) (D:os.Started) (H:Type) (enc:TypeId × Value->H) :
    ReturnsInHanded {} checked os 3 .any (Rows.fnHearsWantSpec.pre6 enc prog f3 Rows.fnHearsWantRow.domain false) (Rows.fnHearsWantSpec.post enc prog f3 false true false false):=by
 refine returnsInHanded_of_change (C:=checked) law_own D bE5 func3
   (ChangeSpec.witness6 (enc:=enc) (C:=checked) false ⟨#[],#[.slice none 0 0],[]⟩ 8 bE5 bE5 bE5 bE5) ?_
 intro W L args ds E o F hW _ _
 have cf:∀ (j:Nat) t v,f3.params[j]?=some t->args[j]?=some v->Value.okWide prog W .any L t v:=F
 have N:DataW.Whole enc prog f3.params.toList Rows.fnHearsWantSpec.vars false W args.toList ds E o:=hW
 obtain ⟨p,q,ar,hV,rfl,af,U⟩:=hW
 have hA:DataW.TrodAll enc prog W 0 (λ_=>true) true f3.params.toList args.toList ds p:=ar
 rw [params3] at hA cf
 obtain ⟨v0,Z,d0,X,p0,q0,R,rfl,rfl,g0,Y⟩:=trodAll_cons hA
 obtain ⟨rfl,rfl,rfl⟩:=trodAll_nil Y
 obtain rfl:args=#[v0]:=by cases args;simp_all
 obtain ⟨rfl,rfl⟩:=trodVars_none hV
 obtain ⟨a0,J,I,rfl⟩:=okWide_slice underlying22 (cf 0 22 v0 rfl rfl)
 obtain ⟨V,ei⟩:=g0
 obtain ⟨x0,h0⟩:=jGj (w:=W) ei
 have h0:(kD.slice 5 kD.byte).raw W [.slice a0 J I] x0:=by simpa [Value.cells] using h0
 refine (kVc h0).mono λe W' ⟨he,hb⟩=>?_
 subst he
 refine ⟨_,rfl,law_post (tb:=4) N rfl rfl underlying4 ⟨rfl,rfl,rfl⟩ ?_ hb⟩
 rw [params3]
 intro t ht
 have O:([22].all λt=>prog.readableRec t && decide (t < prog.types.size))=true:=bE5
 have h1:=List.all_eq_true.1 O t ht
 simpa using h1
theorem kOk:Tryz.pinned.checked.prog.funcNamed Rows.fnHearsWantRow.func=some 3:=by kernel_rfl
theorem kOj:joinedFacts Tryz.pinned.checked.prog 3 f3 Rows.fnHearsWantSpec Rows.fnHearsWantRow=true:=by
 unfold joinedFacts;repeat' (with_reducible refine Bool.and_eq_true_iff.2 (And.intro ?_ ?_))
 all_goals decide +kernel
theorem kQc:f3.isInstance Tryz.pinned.checked.prog Rows.fnHearsWantRow.origin Rows.fnHearsWantRow.targs:=of_decide_eq_true bE5
theorem kQb:f3.isWrapper Tryz.pinned.checked.prog Rows.fnHearsWantRow.wrapper Rows.fnHearsWantRow.mainSum:=by unfold Func.isWrapper;first|(rw [if_pos (by decide +kernel)];kernel_rfl)|(rw [if_neg (by decide +kernel)];exact ⟨rfl,rfl⟩)
theorem lawFnHearsWant_holds : Rows.FnHearsWantSaid :=
  OpenClaim.holds_of_wide 3 f3 rfl rfl rfl rfl rfl rfl rfl ⟨rfl, rfl, rfl, rfl, rfl⟩ rfl rfl rfl rfl rfl kOk func3 kOj kQc kQb
    (λos D H enc _ => lawFnHearsWant_lifted os D H enc)
end Go.Proofs.YthocbplmdjkifaaGreat
