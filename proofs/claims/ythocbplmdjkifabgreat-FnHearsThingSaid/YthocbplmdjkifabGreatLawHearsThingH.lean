/-
  The law FnHearsThing: data are sent to all requesters and cached; unsolicited or untrusted data change nothing but a counter. Its statement.
-/
import Derived.Test.YthocbplmdjkifabGreatLawHearsThing
set_option linter.unusedVariables false
set_option linter.unusedSimpArgs false
set_option linter.unnecessarySimpa false
set_option maxRecDepth 100000
set_option maxHeartbeats 40000000
namespace Go.Proofs.YthocbplmdjkifabGreat
open Go.ChangeShapes Go.WideShapes Go.ChangeAt Go.RowKit _root_.Go.Proofs.Tryz
theorem lawFnHearsThing_lifted (os:Os) (E:os.Started) (H:Type) (enc:TypeId × Value->H) :
    ReturnsInHanded {} checked os 3 .any (Rows.fnHearsThingSpec.pre6 enc prog f3 Rows.fnHearsThingRow.domain false) (Rows.fnHearsThingSpec.post enc prog f3 false true false false):=by
 refine returnsInHanded_of_change (C:=checked) law_own E bI9 func3
   (ChangeSpec.witness6 (enc:=enc) (C:=checked) false ⟨#[],#[.slice none 0 0],[]⟩ 8 bI9 bI9 bI9 bI9) ?_
 intro W N args ds F D I hW _ _;have c7:∀ (j:Nat) t v,f3.params[j]?=some t->args[j]?=some v->Value.okWide prog W .any N t v:=I;have O:DataW.Whole enc prog f3.params.toList Rows.fnHearsThingSpec.vars false W args.toList ds F D:=hW;obtain ⟨p,q,af,hV,rfl,ah,U⟩:=hW;have hA:DataW.TrodAll enc prog W 0 (λ_=>true) true f3.params.toList args.toList ds p:=af;rw [params3] at hA c7;obtain ⟨v0,Y,d0,X,p0,q0,R,rfl,rfl,g0,s0⟩:=trodAll_cons hA;obtain ⟨rfl,rfl,rfl⟩:=trodAll_nil s0;obtain rfl:args=#[v0]:=by cases args;simp_all
 obtain ⟨rfl,rfl⟩:=trodVars_none hV;obtain ⟨a0,L,J,rfl⟩:=okWide_slice underlying22 (c7 0 22 v0 rfl rfl);obtain ⟨V,et⟩:=g0;obtain ⟨x0,h0⟩:=jIv (w:=W) et;have h0:Cc.raw W [.slice a0 L J] x0:=by simpa [Value.cells] using h0
 refine (kUo h0).mono λe W' ⟨he,hb⟩=>?_;subst he;refine ⟨_,rfl,law_post (tb:=4) O rfl rfl underlying4 ⟨rfl,rfl,rfl⟩ ?_ hb⟩;rw [params3];intro t ht;have G:([22].all λt=>prog.readableRec t && decide (t < prog.types.size))=true:=bI9;have h1:=List.all_eq_true.1 G t ht;simpa using h1
theorem kOv:Tryz.pinned.checked.prog.funcNamed Rows.fnHearsThingRow.func=some 3:=by kernel_rfl
theorem kOu:joinedFacts Tryz.pinned.checked.prog 3 f3 Rows.fnHearsThingSpec Rows.fnHearsThingRow=true:=by
 unfold joinedFacts;repeat' (with_reducible refine Bool.and_eq_true_iff.2 (And.intro ?_ ?_))
 all_goals decide +kernel
theorem kPq:f3.isInstance Tryz.pinned.checked.prog Rows.fnHearsThingRow.origin Rows.fnHearsThingRow.targs:=of_decide_eq_true bI9
theorem kPp:f3.isWrapper Tryz.pinned.checked.prog Rows.fnHearsThingRow.wrapper Rows.fnHearsThingRow.mainSum:=by unfold Func.isWrapper;first|(rw [if_pos (by decide +kernel)];kernel_rfl)|(rw [if_neg (by decide +kernel)];exact ⟨rfl,rfl⟩)
theorem lawFnHearsThing_holds : Rows.FnHearsThingSaid :=
  OpenClaim.holds_of_wide 3 f3 rfl rfl rfl rfl rfl rfl rfl ⟨rfl, rfl, rfl, rfl, rfl⟩ rfl rfl rfl rfl rfl kOv func3 kOu kPq kPp
    (λos E H enc _ => lawFnHearsThing_lifted os E H enc)
end Go.Proofs.YthocbplmdjkifabGreat
