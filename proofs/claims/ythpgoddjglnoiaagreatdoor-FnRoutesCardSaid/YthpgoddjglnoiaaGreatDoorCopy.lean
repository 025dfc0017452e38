/-
  Data without memory of its own; appending a whole slice of such data. No program in sight.
  Copies of names.
-/
import Derived.Test.YthpgoddjglnoiaaGreatDoorNum
import Derived.Test.YthpgoddjglnoiaaGreatDoorSoft2
import Derived.Deep.Cut
set_option linter.unusedVariables false
set_option linter.unusedSimpArgs false
set_option linter.unnecessarySimpa false
set_option maxRecDepth 100000
set_option maxHeartbeats 4000000
namespace Go.Proofs.YthpgoddjglnoiaaGreatDoor
open Go.RowKit
namespace Rep
def kDe {α:Type} (r:Rep α):Prop:=∀ {o:Bool} {w w':World} {cs:List Value} {x:α} {S:Nat→Prop},r.is o w cs x S→r.is true w' cs x (fun _=>False)
theorem yL:str.kDe:=fun h=>h
section
variable {α:Type} {r:Rep α} {e:TypeId} {w w':World} {v:Value} {xs ys:List α} {S T:Nat→Prop}
theorem kGm (hr:r.kDe) {o:Bool}:∀ {cells:List Value} {ys:List α} {S:Nat→Prop},row r o w cells ys S→row r true w' cells ys (fun _=>False)
  | _,[],_,h=>h
  | _,y :: ys,_,⟨c,d,A,B,h,h1,h2,_⟩=>⟨c,d,_,_,h,hr h1,kGm hr h2,fun _ h=>h,fun _ h=>h,fun _ _ h _=>h⟩
theorem kHw {P:Program} {t ty:TypeId} {z:Value} {bytes:Nat} (ht:P.underlying t=some (.slice e)) (hinf:(P.info? e).map (fun i=>(i.zero,i.size,i.bytes))=some (some z,r.n,bytes)) (hzs:z.cells.size=r.n) (hn:0 < r.n) (hby:bytes≤1000) (hf:r.kDe)
    {B:Nat} (hown:kH e r w v xs S) {av:Option Addr} {len cap:Nat} (hy:(slice e r).rd w [.slice av len cap] ys) (hSB:∀ k,S k→B≤k∧k < w.heap.size) (hB:B≤w.heap.size) (hlen:xs.length + ys.length≤1000000000) :
    ∃ v' w',(Builtin.append_ #[t,t] ty #[v,.slice av len cap]).run P w=.ok v' w'∧kH e r w' v' (xs++ys) (Btw B w'.heap.size)∧Below B w w'∧w.heap.size≤w'.heap.size:=by
 obtain ⟨i,hi,hz,hsize,hbytes⟩:=info_parts hinf
 obtain ⟨cells,hsrc,hrow⟩:=raw_src hy.1
 have hrow':row r true w cells ys (fun _=>False):=kGm hf hrow
 obtain ⟨v',w',hr,h2,h3⟩:=kDp (P:=P) (ty:=ty) ht hi hz hsize hzs hn fV hown hsrc (jP hrow) (row_one hrow) hlen
 refine ⟨v',w',hr,(h3 hrow' (fun _ _ h=>h) hy.2.2).wide ?_,h2.below hB ?_,h2.size⟩
 · intro k hk
   have hs:=h2.size
   rcases hk with hk | hk | hk
   · have:=hSB k hk;exact ⟨this.1,by omega⟩
   · exact hk.elim
   exact ⟨by omega,hk.2⟩
 intro k hk;exact (hSB k hk.2).1
theorem kM {P:Program} {o:Oper} {a:Act} {K:Act→World→Prop} {Q:Exit→Act→World→Prop} (s x:Operand) (t:TypeId)
    (ho:o.op=.call { callee:=.builtin .append,args:=#[s,x],argTypes:=#[t,t] }) {v sv v':Value} (hs:a.eval s=v) (hx:a.eval x=sv) {w w':World}
    (hr:(Builtin.append_ #[t,t] o.type #[v,sv]).run P w=.ok v' w') (h:K (a.put o.dst v') w'):o.wp P a w K Q:=by
 unfold Oper.wp execOp
 simp only [ho,resolve,invoke,builtin,Sem.run_bind,Sem.run_pure,Result.andThen_ok,List.map_toArray,List.map_cons,List.map_nil,hs,hx,hr]
 exact h
theorem yP {P:Program} {ops:Array Oper} {rest:List Oper} {o:Oper} {a:Act} {Q:Exit→Act→World→Prop} (hgd:o.guard=none) (s x:Operand) (t:TypeId)
    (ho:o.op=.call { callee:=.builtin .append,args:=#[s,x],argTypes:=#[t,t] })
    {z:Value} {bytes:Nat} (ht:P.underlying t=some (.slice e)) (hinf:(P.info? e).map (fun i=>(i.zero,i.size,i.bytes))=some (some z,r.n,bytes)) (hzs:z.cells.size=r.n) (hn:0 < r.n) (hby:bytes≤1000) (hf:r.kDe)
    {B:Nat} (hown:kH e r w v xs S) (hs:a.eval s=v) {av:Option Addr} {len cap:Nat} (hx:a.eval x=.slice av len cap) (hy:(slice e r).rd w [.slice av len cap] ys) (hSB:∀ k,S k→B≤k∧k < w.heap.size) (hB:B≤w.heap.size) (hlen:xs.length + ys.length≤1000000000)
    (h:∀ v' w',kH e r w' v' (xs++ys) (Btw B w'.heap.size)→Below B w w'→w.heap.size≤w'.heap.size→wpList P ops Q rest (a.put o.dst v') w'):wpList P ops Q (o :: rest) a w:=by
 refine wpList_plain hgd fun _ hK=>?_
 obtain ⟨v',w',hr,h1,h2,h3⟩:=kHw (ty:=o.type) ht hinf hzs hn hby hf hown hy hSB hB hlen
 exact kM s x t ho hs hx hr (hK _ _ (h v' w' h1 h2 h3))
end
end Rep
theorem kHd {w:World} {va:Value} {x:List ByteArray} (ha:(Rep.slice 9 Rep.str).rd w [va] x):Calls Tryz.prog 70 #[va] w (kAx (Rep.slice 9 Rep.str) x w):=by
 obtain ⟨aa,capa,rfl,la⟩:=Rep.sl ha.1
 have HA:=yD ha
 have hnil:=fun (W:World) (a:Option Addr) (n c:Nat)=>Lib.run_eql_slice_nil (P:=Tryz.prog) W 25 9 a n c 0 0 Tryz.underlying25
 cases aa with
 | none =>
   have hx:x=[]:=by
     cases x with
     | nil=>rfl
     | cons y ys =>
       obtain ⟨b,off,h,_⟩:=Rep.kJe ha.1 (i:=0) fZ
       cases h
   subst hx
   clear ha
   go_enter Tryz.func70,Tryz.ntmps70
   go_wp2
   go_ret
   exact ⟨_,rfl,Rep.yt,bR⟩
 | some a =>
   have hb:x.length≤16777216:=ha.2.1
   clear ha
   go_enter Tryz.func70,Tryz.ntmps70
   have O0:Rep.kH 9 Rep.str (w.alloc (.cells #[] 9)) (.slice (some ⟨w.heap.size,0,none⟩) 0 0) [] (fun k=>k=w.heap.size):=Rep.je (cs:=[]) (xs:=[]) (T:=fun _=>False) fZ fZ rfl (fun _ h=>h.elim) rfl
   go_wp2_with (at_builtin;refine Rep.yP rfl _ _ 25 rfl (r:=Rep.str) (e:=9) Tryz.underlying25 jW rfl fU fU Rep.yL (B:=w.heap.size) O0 gB gB (HA.out.alloc _) dB fZ fQ ?_)
   intro v2 w2 hown hbel hz
   have HO:=yD hown
   obtain ⟨a2,c2,hv⟩:=hown.zG
   obtain rfl:=hv
   have EG:Below w.heap.size w w2:=Below.trans bB hbel
   clear hown O0 hbel
   go_wp2
   go_ret
   exact ⟨_,rfl,by simpa using HO.out.own (by simpa [Big] using hb),EG⟩
theorem zg {w:World} {ca:List Value} {x:kR} (ha:kV.rd w ca x):Calls Tryz.prog 35 #[.agg ca.toArray] w (kJk kV x w):=by
 have HA:=yD ha
 obtain ⟨av,rfl,a_0⟩:=kN ha.1
 obtain ⟨aa,capa,rfl,la⟩:=Rep.sl a_0
 have hb:x.length≤16777216:=ha.2.1
 clear ha
 go_enter Tryz.func35,Tryz.ntmps35
 go_wp2_with fail
 refine (kHd (HA.out.below bB)).mono ?_
 rintro e w2 ⟨v2,rfl,O2,hbel⟩
 obtain ⟨a2,c2,hv,_⟩:=Rep.yj O2.raw
 obtain rfl:v2=_:=by simpa using hv
 have HO:Hid (kV.own w2 [.slice a2 x.length c2] x (Btw (w.heap.size + 2) w2.heap.size)):=yD (O2.wide (fun j hj=>⟨by have:=hj.1;simp at this;omega,hj.2⟩))
 have EG:Below w.heap.size w w2:=Below.trans bB (hbel.mono dF)
 clear hv O2
 have R0:w2.cell? ⟨w.heap.size + 1,0,none⟩=some (.slice none 0 0):=(hbel.cell (p:=⟨w.heap.size + 1,0,none⟩) fZ).trans fO
 have F0:w2.frozen? ⟨w.heap.size + 1,0,none⟩=false:=(hbel.frozen (p:=⟨w.heap.size + 1,0,none⟩) fZ).trans fO
 clear hbel
 go_wp2
 refine bodyPost_ret (v:=.agg #[.slice a2 x.length c2]) (by simp [results,Tryz.results35,go_sem,R0,F0]) rfl ⟨[_],rfl,?_,?_⟩
 · exact (HO.out.setCell bF).wide bG
 exact EG.setCell fZ _
theorem zO {w:World} {ca:List Value} {x:kR} (ha:kV.rd w ca x):Calls Tryz.prog 38 #[.agg ca.toArray] w (kJk kV x w):=by
 have HA:=yD ha
 obtain ⟨av,rfl,a_0⟩:=kN ha.1
 obtain ⟨aa,capa,rfl,la⟩:=Rep.sl a_0
 have hb:x.length≤16777216:=ha.2.1
 clear ha
 go_enter Tryz.func38,Tryz.ntmps38
 have O0:Rep.kH 9 Rep.str (((w.alloc (.cells #[.slice aa x.length capa] 27)).alloc (.cells #[.slice none 0 0] 27)).alloc (.cells #[] 9)) (.slice (some ⟨w.heap.size + 1 + 1,0,none⟩) 0 0) [] (fun k=>k=w.heap.size + 1 + 1):=by
  have h:=Rep.je (e:=9) (r:=Rep.str) (w:=(w.alloc (.cells #[.slice aa x.length capa] 27)).alloc (.cells #[.slice none 0 0] 27)) (cs:=[]) (xs:=[]) (T:=fun _=>False) (S:=fun k=>k=w.heap.size + 1 + 1) fZ fZ rfl (fun _ h=>h.elim) fZ
  simpa using h
 go_wp2_with (at_builtin;refine Rep.yP rfl _ _ 25 rfl (r:=Rep.str) (e:=9) Tryz.underlying25 jW rfl fU fU Rep.yL (B:=w.heap.size + 1 + 1) O0 gB gB (HA.out.below bB) dB fZ fQ ?_)
 intro v2 w2 hown hbel hz
 obtain ⟨a2,c2,hv⟩:=hown.zG
 obtain rfl:=hv
 have hw:=hown.own (by simpa [Big] using hb)
 have HO:Hid (kV.own w2 [.slice a2 x.length c2] x (Btw (w.heap.size + 1 + 1) w2.heap.size)):=yD hw
 have EG:Below w.heap.size w w2:=Below.trans bB (hbel.mono dF)
 clear hown O0 hw
 have R0:w2.cell? ⟨w.heap.size + 1,0,none⟩=some (.slice none 0 0):=(hbel.cell (p:=⟨w.heap.size + 1,0,none⟩) fZ).trans fO
 have F0:w2.frozen? ⟨w.heap.size + 1,0,none⟩=false:=(hbel.frozen (p:=⟨w.heap.size + 1,0,none⟩) fZ).trans fO
 clear hbel
 go_wp2
 refine bodyPost_ret (v:=.agg #[.slice a2 x.length c2]) (by simp [results,Tryz.results38,go_sem,R0,F0]) rfl ⟨[_],rfl,?_,?_⟩
 · exact (HO.out.setCell bF).wide bG
 exact EG.setCell fZ _
end Go.Proofs.YthpgoddjglnoiaaGreatDoor
