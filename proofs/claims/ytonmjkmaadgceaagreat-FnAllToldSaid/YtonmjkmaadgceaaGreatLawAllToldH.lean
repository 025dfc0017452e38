/-
  The law FnAllTold: each requester receives the data, once, and nobody else does. Its statement.
-/
import Derived.Test.YtonmjkmaadgceaaGreatLawAllTold
set_option linter.unusedVariables false
set_option linter.unusedSimpArgs false
set_option linter.unnecessarySimpa false
set_option maxRecDepth 100000
set_option maxHeartbeats 40000000
namespace Go.Proofs.YtonmjkmaadgceaaGreat
open Go.ChangeShapes Go.WideShapes Go.ChangeAt Go.RowKit _root_.Go.Proofs.Tryz
theorem lawFnAllTold_lifted (os:Os) (E:os.Started) (H:Type) (enc:TypeId × Value→H) :
    ReturnsInHanded {} checked os 3 .any (Rows.fnAllToldSpec.pre6 enc prog f3 Rows.fnAllToldRow.domain false) (Rows.fnAllToldSpec.post enc prog f3 false true false false):=by
 refine returnsInHanded_of_change (C:=checked) law_own E bB4 func3
   (ChangeSpec.witness6 (enc:=enc) (C:=checked) false ⟨#[],#[.slice none 0 0],[]⟩ 8 bB4 bB4 bB4 bB4) ?_
 intro W R args ds F D I hW _ _
 have G:∀ (j:Nat) t v,f3.params[j]?=some t→args[j]?=some v→Value.okWide prog W .any R t v:=I
 have U:DataW.Whole enc prog f3.params.toList Rows.fnAllToldSpec.vars false W args.toList ds F D:=hW
 obtain ⟨p,q,L,hV,rfl,bg,X⟩:=hW
 have hA:DataW.TrodAll enc prog W 0 (fun _=>true) true f3.params.toList args.toList ds p:=L
 rw [params3] at hA G
 obtain ⟨v0,aa,d0,Z,p0,q0,V,rfl,rfl,g0,s0⟩:=trodAll_cons hA
 obtain ⟨rfl,rfl,rfl⟩:=trodAll_nil s0
 obtain rfl:args=#[v0]:=by cases args;simp_all
 obtain ⟨rfl,rfl⟩:=trodVars_none hV
 obtain ⟨a0,O,N,rfl⟩:=okWide_slice underlying22 (G 0 22 v0 rfl rfl)
 obtain ⟨Y,el⟩:=g0
 obtain ⟨x0,h0⟩:=kXa (w:=W) el
 have h0:(kE.slice 5 kE.byte).raw W [.slice a0 O N] x0:=by simpa [Value.cells] using h0
 refine (kTd h0).mono fun e W' ⟨he,hb⟩=>?_
 subst he
 refine ⟨_,rfl,law_post (tb:=4) U rfl rfl underlying4 ⟨rfl,rfl,rfl⟩ ?_ hb⟩
 rw [params3]
 intro t ht
 have J:([22].all fun t=>prog.readableRec t && decide (t < prog.types.size))=true:=bB4
 have h1:=List.all_eq_true.1 J t ht
 simpa using h1
theorem kMl:Tryz.pinned.checked.prog.funcNamed Rows.fnAllToldRow.func=some 3:=by kernel_rfl
theorem kMk:joinedFacts Tryz.pinned.checked.prog 3 f3 Rows.fnAllToldSpec Rows.fnAllToldRow=true:=by
 unfold joinedFacts
 repeat' (with_reducible refine Bool.and_eq_true_iff.2 (And.intro ?_ ?_))
 all_goals decide +kernel
theorem kNr:f3.isInstance Tryz.pinned.checked.prog Rows.fnAllToldRow.origin Rows.fnAllToldRow.targs:=of_decide_eq_true bB4
theorem kNq:f3.isWrapper Tryz.pinned.checked.prog Rows.fnAllToldRow.wrapper Rows.fnAllToldRow.mainSum:=by unfold Func.isWrapper;first|(rw [if_pos (by decide +kernel)];kernel_rfl)|(rw [if_neg (by decide +kernel)];exact ⟨rfl,rfl⟩)
theorem lawFnAllTold_holds : Rows.FnAllToldSaid :=
  OpenClaim.holds_of_wide 3 f3 rfl rfl rfl rfl rfl rfl rfl ⟨rfl, rfl, rfl, rfl, rfl⟩ rfl rfl rfl rfl rfl kMl func3 kMk kNr kNq
    (fun os E H enc _ => lawFnAllTold_lifted os E H enc)
end Go.Proofs.YtonmjkmaadgceaaGreat
