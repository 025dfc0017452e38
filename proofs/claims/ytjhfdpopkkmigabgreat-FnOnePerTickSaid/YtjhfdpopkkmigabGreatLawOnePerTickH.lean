/-
  The law FnOnePerTick: an interest for a name that was forwarded in the same tick is aggregated and not forwarded again. Its statement.
-/
import Derived.Test.YtjhfdpopkkmigabGreatLawOnePerTick
set_option linter.unusedVariables false
set_option linter.unusedSimpArgs false
set_option linter.unnecessarySimpa false
set_option maxRecDepth 100000
set_option maxHeartbeats 40000000
namespace Go.Proofs.YtjhfdpopkkmigabGreat
open Go.ChangeShapes Go.WideShapes Go.ChangeAt Go.RowKit _root_.Go.Proofs.Tryz
theorem lawFnOnePerTick_lifted (os:Os) (D:os.Started) (H:Type) (enc:TypeId × Value->H) :
    ReturnsInHanded {} checked os 3 .any (Rows.fnOnePerTickSpec.pre6 enc prog f3 Rows.fnOnePerTickRow.domain false) (Rows.fnOnePerTickSpec.post enc prog f3 false true false false):=by
 refine returnsInHanded_of_change (C:=checked) law_own D bG6 func3
   (ChangeSpec.witness6 (enc:=enc) (C:=checked) false ⟨#[],#[.slice none 0 0],[]⟩ 8 bG6 bG6 bG6 bG6) ?_
 intro W E args ds F o J hW _ _
 have I:∀ (j:Nat) t v,f3.params[j]?=some t->args[j]?=some v->Value.okWide prog W .any E t v:=J
 have O:DataW.Whole enc prog f3.params.toList Rows.fnOnePerTickSpec.vars false W args.toList ds F o:=hW
 obtain ⟨p,q,aw,hV,rfl,ah,X⟩:=hW
 have hA:DataW.TrodAll enc prog W 0 (λ_=>true) true f3.params.toList args.toList ds p:=aw
 rw [params3] at hA I
 obtain ⟨v0,aa,d0,Z,p0,q0,V,rfl,rfl,g0,R⟩:=trodAll_cons hA
 obtain ⟨rfl,rfl,rfl⟩:=trodAll_nil R
 obtain rfl:args=#[v0]:=by cases args;simp_all
 obtain ⟨rfl,rfl⟩:=trodVars_none hV
 obtain ⟨a0,N,L,rfl⟩:=okWide_slice underlying22 (I 0 22 v0 rfl rfl)
 obtain ⟨Y,d4⟩:=g0
 obtain ⟨U,h0⟩:=jCb (w:=W) d4
 have h0:(kD.slice 5 kD.byte).raw W [.slice a0 N L] U:=by simpa [Value.cells] using h0
 refine (kQn h0).mono λe W' ⟨he,hb⟩=>?_
 subst he
 refine ⟨_,rfl,law_post (tb:=4) O rfl rfl underlying4 ⟨rfl,rfl,rfl⟩ ?_ hb⟩
 rw [params3]
 intro t ht
 have G:([22].all λt=>prog.readableRec t && decide (t < prog.types.size))=true:=bG6
 have h1:=List.all_eq_true.1 G t ht
 simpa using h1
theorem kLn:Tryz.pinned.checked.prog.funcNamed Rows.fnOnePerTickRow.func=some 3:=by kernel_rfl
theorem kLm:joinedFacts Tryz.pinned.checked.prog 3 f3 Rows.fnOnePerTickSpec Rows.fnOnePerTickRow=true:=by
 unfold joinedFacts;repeat' (with_reducible refine Bool.and_eq_true_iff.2 (And.intro ?_ ?_))
 all_goals decide +kernel
theorem kMn:f3.isInstance Tryz.pinned.checked.prog Rows.fnOnePerTickRow.origin Rows.fnOnePerTickRow.targs:=of_decide_eq_true bG6
theorem kMm:f3.isWrapper Tryz.pinned.checked.prog Rows.fnOnePerTickRow.wrapper Rows.fnOnePerTickRow.mainSum:=by unfold Func.isWrapper;first|(rw [if_pos (by decide +kernel)];kernel_rfl)|(rw [if_neg (by decide +kernel)];exact ⟨rfl,rfl⟩)
theorem lawFnOnePerTick_holds : Rows.FnOnePerTickSaid :=
  OpenClaim.holds_of_wide 3 f3 rfl rfl rfl rfl rfl rfl rfl ⟨rfl, rfl, rfl, rfl, rfl⟩ rfl rfl rfl rfl rfl kLn func3 kLm kMn kMm
    (λos D H enc _ => lawFnOnePerTick_lifted os D H enc)
end Go.Proofs.YtjhfdpopkkmigabGreat
