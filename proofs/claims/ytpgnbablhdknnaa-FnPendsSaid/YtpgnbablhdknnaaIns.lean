/-
  slices.Insert over an owned slice of flat data.
-/
import Derived.Test.YtpgnbablhdknnaaSoft3
import Derived.Test.YtpgnbablhdknnaaClone
import Derived.Shelf.Spec.SlicesInsertGrow
import Derived.Laws.CopyRow
set_option linter.unusedVariables false
set_option linter.unusedSimpArgs false
set_option linter.unnecessarySimpa false
set_option maxRecDepth 100000
set_option maxHeartbeats 4000000
namespace Go.Proofs.Ytpgnbablhdknnaa
open Go.RowKit
namespace Rep
section
variable {α:Type} {r:Rep α} {e:TypeId} {w w':World} {v:Value} {b cap n:Nat} {xs l:List α} {i:Nat} {x:α} {S T:Nat→Prop}
theorem kCt {P:Program} (w:World) (dT sT ty elem:TypeId) (g o dLen dCap:Nat) (a:Addr) (sLen sCap n:Nat) (cur:Array Value) (t:TypeId) (cs:List Value)
    (hu:P.underlying dT=some (.slice elem)) (hs:(P.info? elem).map (·.size)=some n)
    (hg:w.heap[g]?=some (.cells cur t (0,0))) (hn:cs.length=Nat.min sLen dLen * n)
    (hsrc:∀ j v,cs[j]?=some v→w.cell? (a.add j)=some v) (hfit:o + cs.length≤cur.size) (h1:∀ v∈cs,v.oneCell'=true) :
    (Builtin.copy_ #[dT,sT] ty #[.slice (some ⟨g,o,none⟩) dLen dCap,.slice (some a) sLen sCap]).run P w =
      .ok (goInt (Nat.min sLen dLen)) (w.setRow g (cur.toList.take o++cs++cur.toList.drop (o + cs.length)).toArray):=by
 have hl:=run_loadCells_list (P:=P) w a cs hsrc
 have hst:=run_storeCells_at P g o t cs 0 cur w hg (by simpa using hfit) h1
 cases hq:P.info? elem with
 | none=>simp [hq] at hs
 | some i =>
   have hi:i.size=n:=by simpa [hq] using hs
   simp [Builtin.copy_,run_underlying hu,Builtin.lenOf,Builtin.firstCells,sizeOf,typeInfo,hq,hi,← hn,hl,hst]
theorem row_ins (hf:r.zY) {cells cx:List Value} (h:row r true w cells l S) (hi:i≤l.length) (hx:r.is true w cx x T) :
    row r true w' (cells.take (i * r.n)++(cx++cells.drop (i * r.n))) (l.take i++x :: l.drop i) (fun _=>False):=by
 have hl:l=l.take i++l.drop i:=(List.take_append_drop i l).symm
 rw [hl] at h
 obtain ⟨d1,d2,A,B,rfl,r1,r2,hA,hB,hd⟩:=kCu (l.take i) h
 have hlen:d1.length=i * r.n:=by rw [jK r1,List.length_take];congr 1;omega
 rw [List.take_append_of_le_length gV,List.take_of_length_le gV,List.drop_append_of_le_length gV,List.drop_of_length_le gV,List.nil_append]
 refine jY (kCm hf r1) ?_ (fun _ h=>h) (fun _ h=>h) (fun _ _ h _=>h)
 exact ⟨cx,d2,_,_,rfl,hf hx,kCm hf r2,fun _ h=>h,fun _ h=>h,fun _ _ h _=>h⟩
theorem ins_list {cells cx tl:List Value} {k m:Nat} (hk:k≤cells.length) (hm:cx.length=m) (ht:m≤tl.length) :
    let X:=cells++tl
    let Y:=X.take (k + m)++cells.drop k++X.drop (k + m + (cells.length - k))
    Y.take k++cx++Y.drop (k + m)=(cells.take k++(cx++cells.drop k))++tl.drop m:=by
 intro X Y
 have hXl:(X.take (k + m)).length=k + m:=by simp [X];omega
 have hY1:Y.take k=cells.take k:=by
  show (X.take (k + m)++cells.drop k++X.drop (k + m + (cells.length - k))).take k=_
  rw [List.append_assoc,List.take_append_of_le_length gV,List.take_take,Nat.min_eq_left gV]
  show (cells++tl).take k=_
  rw [List.take_append_of_le_length hk]
 have hY2:Y.drop (k + m)=cells.drop k++tl.drop m:=by
  show (X.take (k + m)++cells.drop k++X.drop (k + m + (cells.length - k))).drop (k + m)=_
  rw [List.append_assoc,List.drop_append_of_le_length gV,List.drop_of_length_le gV,List.nil_append]
  congr 1
  show (cells++tl).drop _=_
  rw [List.drop_append]
  rw [List.drop_of_length_le gV,List.nil_append]
  congr 1;omega
 rw [hY1,hY2];simp
theorem ins_new {A cx B tl:List Value} {k m n:Nat} (hk:A.length=k) (hm:cx.length=m) (hB:B.length=n) {Z:List Value} (hz:Z.length=m + n) :
    let X:=A++Z++tl
    let Y:=X.take k++cx++X.drop (k + m)
    Y.take (k + m)++B++Y.drop (k + m + n)=(A++(cx++B))++tl:=by
 intro X Y
 have hX:X.take k=A:=by show (A++Z++tl).take k=_;rw [List.append_assoc,List.take_append_of_le_length gV,List.take_of_length_le gV]
 have hXd:X.drop (k + m)=Z.drop m++tl:=by
  show (A++Z++tl).drop (k + m)=_
  rw [List.append_assoc,List.drop_append,List.drop_of_length_le gV,List.nil_append,show k + m - A.length=m by omega,List.drop_append_of_le_length gV]
 have hY:Y=A++cx++(Z.drop m++tl):=by show X.take k++cx++X.drop (k + m)=_;rw [hX,hXd]
 rw [hY,List.take_append_of_le_length gQ,List.take_of_length_le gQ,List.drop_append,List.drop_of_length_le gQ,List.nil_append,List.drop_append,List.drop_of_length_le gQ,List.nil_append]
 rw [show k + m + n - (A++cx).length - (Z.drop m).length=0 by simp;omega,List.drop_zero]
 simp
theorem own0_at (hb:∀ y∈xs,r.bdd Big y) {cs tl:List Value} (hn:n=xs.length) (hc:n≤cap) (hm:cap≤maxLen) (hh:w.heap[b]?=some (.cells (cs++tl).toArray e (0,0))) (hs:(cs++tl).length=cap * r.n) (hS:S b) (hr:row r true w cs xs (fun _=>False)) :
    kT e r w (.slice (some ⟨b,0,none⟩) n cap) xs S:=by
 subst hn
 exact ⟨hb,.inr ⟨b,cap,_,cs,tl,rfl,hc,hm,hh,by simp,by simpa using hs,hS,jD hr (fun _ h=>h.elim)⟩⟩
theorem mem_ins {P:α→Prop} (h:∀ y∈l,P y) (hx:P x):∀ y∈l.take i++x :: l.drop i,P y:=by
 intro y hy
 rcases List.mem_append.1 hy with q | q
 · exact h y (List.mem_of_mem_take q)
 rcases List.mem_cons.1 q with q | q
 · rw [q];exact hx
 exact h y (List.mem_of_mem_drop q)
theorem len_ins {i:Nat}:(l.take i++x :: l.drop i).length=l.length + 1:=by simp;omega
end
end Rep
theorem kCs {w:World} {v:Value} {l:List kH} {i vb:Nat} {cx:List Value} {x:kH} {S:Nat→Prop} (hl:Rep.kT 56 kF w v l S) (hlen:l.length≤16777216) (hvb:w.heap[vb]?=some (.cells cx.toArray 56 (0,0))) (hvS:¬ S vb) (hx:kF.is true w cx x (fun _=>False)) (hbx:kF.bdd Big x) (hi:i=l.length) :
    Calls Try.prog 43 #[v,.int .i64 i,.slice (some ⟨vb,0,none⟩) 1 1] w fun e w'=>∃ v',e=.returned v'∧Rep.kT 56 kF w' v' (l.take i++x :: l.drop i) (fun k=>S k∨(w.heap.size≤k∧k < w'.heap.size))∧Touch S w w':=by
 obtain ⟨a,cap,hv⟩:=hl.zO
 have HO:=yD hl
 have HSRC:Hid (Rep.Src w (.slice (some ⟨vb,0,none⟩) 1 1) 1 cx):=yD (.inr ⟨_,1,rfl,fun j u hj=>by
   rw [Addr.add_lit,Nat.zero_add,cell_of_row w vb _ _ 56 (0,0) hvb];simpa using hj⟩)
 have HROW:Hid (Rep.row kF true w cx [x] (fun _=>False)):=yD ⟨cx,[],_,_,by simp,hx,rfl,fun _ h=>h,fun _ h=>h,fun _ _ h _=>h⟩
 have HR:=yD hvb
 have HX:=yD hx
 subst hi
 have HB:=yD hbx
 have HE:Hid (l.take l.length++x :: l.drop l.length=l++[x]):=yD gW
 obtain ⟨inf0,hinf0,hz0,hs0,hby0⟩:=info_parts jC
 clear hl hvb hx hbx
 subst hv
 go_enter Try.func43,Try.ntmps43
 go_wp2_with (at_builtin;refine Rep.kFq rfl _ _ 36 rfl (r:=kF) (e:=56) (ys:=[x]) (T:=fun _=>False) (m:=1) (cells:=cx) Try.underlying36 hinf0 hz0 hs0 rfl gU gV HO.out rfl rfl HSRC.out HROW.out rfl (fun _ _ h=>h) (by intro y hy;simp only [List.mem_singleton] at hy;rw [hy];exact HB.out) gQ ?_)
 all_goals
   intro v' w2 ho2 hb2
   obtain ⟨va,vn,vc,hv2,HV2⟩:=ho2.parts;obtain rfl:=hv2
   go_wp2
   go_ret
   refine ⟨_,rfl,ho2.cast HE.out.symm,⟨hb2.os,hb2.tape,hb2.output,hb2.size,fun k hk q=>hb2.block k hk (fun a=>q a.2)⟩⟩
theorem kBv {w:World} {b cap:Nat} {l:List kH} {i vb:Nat} {cx:List Value} {x:kH} {S:Nat→Prop} (hl:Rep.kT 56 kF w (.slice (some ⟨b,0,none⟩) l.length cap) l S) (hlen:l.length≤16777216) (hvb:w.heap[vb]?=some (.cells cx.toArray 56 (0,0))) (hvS:¬ S vb) (hx:kF.is true w cx x (fun _=>False)) (hbx:kF.bdd Big x) (hi:i < l.length) (hroom:l.length + 1≤cap) :
    Calls Try.prog 43 #[.slice (some ⟨b,0,none⟩) l.length cap,.int .i64 i,.slice (some ⟨vb,0,none⟩) 1 1] w fun e w'=>∃ v',e=.returned v'∧Rep.kT 56 kF w' v' (l.take i++x :: l.drop i) (fun k=>S k∨(w.heap.size≤k∧k < w'.heap.size))∧Touch S w w':=by
 obtain ⟨hb0,h⟩:=hl
 rcases h with ⟨⟨a,h0⟩,h1⟩|⟨b',cap',cur,cs,tl,h0,h1,h2,h3,h4,h5,h6,h7⟩
 · rw [h1] at hi;simp at hi
 simp only [Value.slice.injEq,Option.some.injEq,Addr.mk.injEq,and_true,true_and] at h0
 obtain ⟨rfl,rfl⟩:=h0
 obtain rfl:cur=(cs++tl).toArray:=by rw [← h4]
 have hn3:kF.n=3:=rfl
 have hcl:=Rep.jK h7
 have h1c:=Rep.row_one h7
 have hxl:=kF.len hx
 have h1x:=kF.one hx
 rw [hn3] at hcl hxl h5
 have hbv:b≠vb:=fun q=>hvS (q ▸ h6)
 have htl:cs.length + tl.length=cap * 3:=by simpa using h5
 have hcap63:cap≤9223372036854775807:=h2
 have hfrow:Hid (∀ (W:World),Rep.row kF true W (cs.take (i * 3)++(cx++cs.drop (i * 3))) (l.take i++x :: l.drop i) (fun _=>False)):=yD (fun W=>Rep.row_ins (w':=W) yB h7 (Nat.le_of_lt hi) hx)
 have HBD:Hid (∀ y∈l.take i++x :: l.drop i,kF.bdd Big y):=yD (Rep.mem_ins hb0 hbx)
 have hsz:(Try.prog.info? 56).map (·.size)=some 3:=by
  obtain ⟨inf0,hinf0,hz0,hs0,hby0⟩:=info_parts jC
  rw [hinf0];simp [hs0]
 have hcc:∀ j u,cs[j]?=some u→w.cell? ⟨b,j,none⟩=some u:=fun j u hj=>by
   have hjl:=(List.getElem?_eq_some_iff.1 hj).1
   rw [cell_of_row w b j _ 56 (0,0) h3];simp only [List.getElem?_toArray];rw [List.getElem?_append_left hjl];exact hj
 have hvc:∀ j u,cx[j]?=some u→w.cell? ⟨vb,j,none⟩=some u:=fun j u hj=>by
   rw [cell_of_row w vb j _ 56 (0,0) hvb];simpa using hj
 have hov:∀ lb cb,(callFunc 80 #[.slice (some ⟨vb,0,none⟩) 1 1,.slice (some ⟨b,(i + 1) * 3,none⟩) lb cb]).run Try.prog w=.ok (.value (.bool false)) w:=fun lb cb=>by
   rw [run_callFunc_extern Try.func80 gP gP gP (e:=Extern.SlicesOverlaps.overlaps #[36,36] #[4]) gP,
     Lib.run_overlaps_apart w 36 4 56 Try.underlying36 3 (fun W=>by
       obtain ⟨inf0,hinf0,hz0,hs0,hby0⟩:=info_parts jC
       simp [sizeOf,typeInfo,hinf0,hs0]) ⟨vb,0,none⟩ ⟨b,(i + 1) * 3,none⟩ 1 1 lb cb (fun q=>hbv q.symm) 56 56 3 (cap * 3) (by simp [World.shape?,hvb,hxl]) (by simp only [World.shape?,h3];simp [h5]) gV (frozen_of_row w vb _ _ _ hvb) (frozen_of_row w vb _ _ _ hvb)]
   rfl
 have hdl:(cs.drop (i * 3)).length=(l.length - i) * 3:=by rw [List.length_drop,hcl];omega
 have hmin1:Nat.min (l.length + 1 - i) (l.length - i)=l.length - i:=bT
 have hmin2:Nat.min 1 (l.length + 1 - i)=1:=bT
 obtain ⟨R1,hR1⟩:∃ R1:List Value,R1=(cs++tl).take (i * 3 + 3)++cs.drop (i * 3)++(cs++tl).drop (i * 3 + 3 + (cs.length - i * 3)):=⟨_,rfl⟩
 have hfin:R1.take (i * 3)++cx++R1.drop (i * 3 + 3)=(cs.take (i * 3)++(cx++cs.drop (i * 3)))++tl.drop 3:=by
  rw [hR1];exact Rep.ins_list gV hxl gV
 have hR1l:R1.length=cap * 3:=by
  rw [hR1];simp only [List.length_append,List.length_take,List.length_drop];omega
 have hcp1:∀ ty dc sc,(Builtin.copy_ #[36,36] ty #[.slice (some ⟨b,(i + 1) * 3,none⟩) (l.length - i) dc,.slice (some ⟨b,i * 3,none⟩) (l.length + 1 - i) sc]).run Try.prog w.drew=.ok (goInt ((l.length - i:Nat):Int)) (w.drew.setRow b R1.toArray):=fun ty dc sc=>by
   have q:=Rep.kCt (P:=Try.prog) w.drew 36 36 ty 56 b (i * 3 + 3) (l.length - i) dc ⟨b,i * 3,none⟩ (l.length + 1 - i) sc 3 _ 56 (cs.drop (i * 3)) Try.underlying36 hsz h3 (by rw [hmin1];exact hdl)
     (fun j u hj=>by rw [Addr.add_lit];exact hcc (i * 3 + j) u (by rwa [List.getElem?_drop] at hj)) (by simp only [List.size_toArray,List.length_append];omega) (fun u hu=>h1c u (List.mem_of_mem_drop hu))
   rw [hmin1,List.length_drop] at q
   rw [show (i + 1) * 3=i * 3 + 3 by omega,hR1]
   exact q
 have hz:(w.drew.setRow b R1.toArray).heap[b]?=some (.cells R1.toArray 56 (0,0)):=setRow_heap w.drew b _ R1.toArray 56 (0,0) h3
 have hcp2:∀ ty dc,(Builtin.copy_ #[36,36] ty #[.slice (some ⟨b,i * 3,none⟩) (l.length + 1 - i) dc,.slice (some ⟨vb,0,none⟩) 1 1]).run Try.prog (w.drew.setRow b R1.toArray)=.ok (goInt ((1:Nat):Int)) ((w.drew.setRow b R1.toArray).setRow b ((cs.take (i * 3)++(cx++cs.drop (i * 3)))++tl.drop 3).toArray):=fun ty dc=>by
   have q:=Rep.kCt (P:=Try.prog) (w.drew.setRow b R1.toArray) 36 36 ty 56 b (i * 3) (l.length + 1 - i) dc ⟨vb,0,none⟩ 1 1 3 _ 56 cx Try.underlying36 hsz hz (by rw [hmin2,hxl])
     (fun j u hj=>by
       rw [Addr.add_lit,Nat.zero_add,cell_of_row _ vb j _ 56 (0,0) ((setRow_other w.drew b vb _ (fun q=>hbv q.symm)).trans hvb)];simpa using hj) (by simp only [List.size_toArray];omega) h1x
   rw [hmin2,hxl] at q
   rw [← hfin]
   exact q
 have hend:Rep.kT 56 kF ((w.drew.setRow b R1.toArray).setRow b ((cs.take (i * 3)++(cx++cs.drop (i * 3)))++tl.drop 3).toArray) (.slice (some ⟨b,0,none⟩) (l.length + 1) cap) (l.take i++x :: l.drop i) (fun k=>S k∨(w.heap.size≤k∧k < ((w.drew.setRow b R1.toArray).setRow b ((cs.take (i * 3)++(cx++cs.drop (i * 3)))++tl.drop 3).toArray).heap.size)):=by
  refine Rep.own0_at HBD.out Rep.len_ins.symm hroom h2 (setRow_heap _ b _ _ 56 (0,0) hz) ?_ (.inl h6) (hfrow.out _)
  simp only [List.length_append,List.length_take,List.length_drop];rw [hn3];omega
 have HE:=yD hend
 have HT:Hid (Touch S w ((w.drew.setRow b R1.toArray).setRow b ((cs.take (i * 3)++(cx++cs.drop (i * 3)))++tl.drop 3).toArray)):=yD ⟨rfl,rfl,rfl,by simp,fun k hk q=>by
   have hkb:k≠b:=fun hq=>q (hq ▸ h6)
   rw [setRow_other _ b k _ hkb,setRow_other _ b k _ hkb];rfl⟩
 generalize hW1:w.drew.setRow b R1.toArray=W1 at *
 generalize hW2:W1.setRow b _=W2 at *
 have hil:i≤l.length:=Nat.le_of_lt hi
 have hz1:¬ ((i:Int)=(l.length:Int)):=gV
 have hw1:IntKind.i64.wrap ((i:Int) + 1)=(i:Int) + 1:=dS
 have hw2:IntKind.i64.wrap ((l.length:Int) + 1)=(l.length:Int) + 1:=dS
 have mixed:Try.prog.follows Departure.mixedOrders=true:=gP
 have hb1:(0:Int)≤(i:Int) + 1:=gV
 have htn:((i:Int) + 1).toNat=i + 1:=gV
 have hb2:¬ (cap=i + 1):=gV
 have hb3:(i:Int)≤(l.length:Int) + 1:=gV
 have hb4:¬ (cap=i):=gV
 have hb5:(i:Int) + 1≤(l.length:Int) + 1:=gV
 have hb6:i + 1≤l.length + 1:=gV
 have hb7:(i:Int)≤(l.length:Int):=gV
 clear h7 h5 h3 hcc hvc hvb hx h1x h1c hfrow hend HBD hfin hz hR1 hR1l
 go_enter Try.func43,Try.ntmps43
 go_wp2_with (simp only [hov])
 go_region_law_o (refine step_copy_runI rfl _ _ 36 36 rfl _ _ fE fE (hcp1 _ _ _) ?_)
 go_wp2_with (at_builtin;refine wpList_copy_runI _ rfl _ _ 36 36 rfl _ _ rfl rfl (hcp2 _ _) ?_)
 go_ret
 exact ⟨_,rfl,HE.out,HT.out⟩
theorem kCe {w:World} {b cap:Nat} {l:List kH} {i vb:Nat} {cx:List Value} {x:kH} {S:Nat→Prop} (hl:Rep.kT 56 kF w (.slice (some ⟨b,0,none⟩) l.length cap) l S) (hlen:l.length≤16777216) (hvb:w.heap[vb]?=some (.cells cx.toArray 56 (0,0))) (hvS:¬ S vb) (hx:kF.is true w cx x (fun _=>False)) (hbx:kF.bdd Big x) (hi:i < l.length) (hroom:cap < l.length + 1) :
    Calls Try.prog 43 #[.slice (some ⟨b,0,none⟩) l.length cap,.int .i64 i,.slice (some ⟨vb,0,none⟩) 1 1] w fun e w'=>∃ v',e=.returned v'∧Rep.kT 56 kF w' v' (l.take i++x :: l.drop i) (fun k=>S k∨(w.heap.size≤k∧k < w'.heap.size))∧Touch S w w':=by
 obtain ⟨hb0,h⟩:=hl
 rcases h with ⟨⟨a,h0⟩,h1⟩|⟨b',cap',cur,cs,tl,h0,h1,h2,h3,h4,h5,h6,h7⟩
 · rw [h1] at hi;simp at hi
 simp only [Value.slice.injEq,Option.some.injEq,Addr.mk.injEq,and_true,true_and] at h0
 obtain ⟨rfl,rfl⟩:=h0
 obtain rfl:cur=(cs++tl).toArray:=by rw [← h4]
 have hn3:kF.n=3:=rfl
 have hcl:=Rep.jK h7
 have h1c:=Rep.row_one h7
 have hxl:=kF.len hx
 have h1x:=kF.one hx
 rw [hn3] at hcl hxl h5
 have hbv:b≠vb:=fun q=>hvS (q ▸ h6)
 have htl:cs.length + tl.length=cap * 3:=by simpa using h5
 have hcap63:cap≤9223372036854775807:=h2
 have hfrow:Hid (∀ (W:World),Rep.row kF true W (cs.take (i * 3)++(cx++cs.drop (i * 3))) (l.take i++x :: l.drop i) (fun _=>False)):=yD (fun W=>Rep.row_ins (w':=W) yB h7 (Nat.le_of_lt hi) hx)
 have HBD:Hid (∀ y∈l.take i++x :: l.drop i,kF.bdd Big y):=yD (Rep.mem_ins hb0 hbx)
 have hsz:(Try.prog.info? 56).map (·.size)=some 3:=by
  obtain ⟨inf0,hinf0,hz0,hs0,hby0⟩:=info_parts jC
  rw [hinf0];simp [hs0]
 have hcc:∀ j u,cs[j]?=some u→w.cell? ⟨b,j,none⟩=some u:=fun j u hj=>by
   have hjl:=(List.getElem?_eq_some_iff.1 hj).1
   rw [cell_of_row w b j _ 56 (0,0) h3];simp only [List.getElem?_toArray];rw [List.getElem?_append_left hjl];exact hj
 have hvc:∀ j u,cx[j]?=some u→w.cell? ⟨vb,j,none⟩=some u:=fun j u hj=>by
   rw [cell_of_row w vb j _ 56 (0,0) hvb];simpa using hj
 have hlc:l.length≤cap:=h1
 obtain ⟨inf0,hinf0,hz0,hs0,hby0⟩:=info_parts jC
 have hbw:b < w.heap.size:=(Array.getElem?_eq_some_iff.1 h3).1
 have hvw:vb < w.heap.size:=(Array.getElem?_eq_some_iff.1 hvb).1
 have hdl:(cs.drop (i * 3)).length=(l.length - i) * 3:=by rw [List.length_drop,hcl];omega
 have htk:(cs.take (i * 3)).length=i * 3:=dR
 obtain ⟨ZV,hZV⟩:∃ ZV:Value,inf0.zero=some ZV∧ZV.cells.size=3:=⟨_,hz0,rfl⟩
 have hold:(Builtin.firstCells inf0.size i (.slice (some ⟨b,0,none⟩) i cap)).run Try.prog w.drew=.ok (cs.take (i * 3)).toArray w.drew:=by
  rw [hs0]
  exact run_firstCells_some w.drew 3 i ⟨b,0,none⟩ i cap (cs.take (i * 3)) htk (fun j u hj=>by
    rw [Addr.add_lit,Nat.zero_add]
    rw [List.getElem?_take] at hj
    split at hj
    · exact hcc j u hj
    · cases hj)
 have hik:i + (l.length + 1 - i)=l.length + 1:=gV
 have hrz:∀ ty,(Builtin.append_ #[36,3] ty #[.slice (some ⟨b,0,none⟩) i cap,.int .i64 ((l.length:Int) + 1 - (i:Int))]).run Try.prog w =
     .ok (.slice (some ⟨w.heap.size,0,none⟩) (l.length + 1) (grownCap w (l.length + 1) cap 56)) (w.drew.alloc (.cells ((cs.take (i * 3)).toArray++Builtin.zeroCells ZV.cells (l.length + 1 - i)++Builtin.zeroCells ZV.cells (grownCap w (l.length + 1) cap 56 - (l.length + 1))) 56)):=fun ty=>by
   have h:=Lib.run_append_grow_zeros (P:=Try.prog) w 36 3 ty 56 inf0 ZV .i64 .i64 Try.underlying36 Try.underlying3 hinf0 hZV.1 (some ⟨b,0,none⟩) i cap (cs.take (i * 3)) hold (l.length + 1 - i) gV gV gV gV (by rw [hby0];omega) (by rw [hby0,hik];exact growslice_fits hroom gV)
   rw [hik] at h
   rw [show ((l.length:Int) + 1 - (i:Int))=((l.length + 1 - i:Nat):Int) by omega]
   exact h
 have hGn:l.length + 1≤grownCap w (l.length + 1) cap 56:=grownCap_ge w _ _ _
 have hG63:grownCap w (l.length + 1) cap 56≤maxLen:=grownCap_le_maxLen w (l.length + 1) cap 56 fO
 generalize grownCap w (l.length + 1) cap 56=G at *
 obtain ⟨Z,hZ,hZl⟩:∃ Z:List Value,Builtin.zeroCells ZV.cells (l.length + 1 - i)=Z.toArray∧Z.length=3 + (l.length - i) * 3:=⟨(Builtin.zeroCells ZV.cells (l.length + 1 - i)).toList,by simp,by
   rw [Array.length_toList,size_zeroCells,hZV.2];omega⟩
 obtain ⟨TL,hTL,hTLl⟩:∃ TL:List Value,Builtin.zeroCells ZV.cells (G - (l.length + 1))=TL.toArray∧TL.length=(G - (l.length + 1)) * 3:=⟨(Builtin.zeroCells ZV.cells (G - (l.length + 1))).toList,by simp,by
   rw [Array.length_toList,size_zeroCells,hZV.2]⟩
 have hrow0:(cs.take (i * 3)).toArray++Builtin.zeroCells ZV.cells (l.length + 1 - i)++Builtin.zeroCells ZV.cells (G - (l.length + 1))=(cs.take (i * 3)++Z++TL).toArray:=by rw [hZ,hTL];simp
 rw [hrow0] at hrz
 clear hrow0 hZ hTL hold
 obtain ⟨R1,hR1⟩:∃ R1:List Value,R1=(cs.take (i * 3)++Z++TL).take (i * 3)++cx++(cs.take (i * 3)++Z++TL).drop (i * 3 + 3):=⟨_,rfl⟩
 have hfin:R1.take (i * 3 + 3)++cs.drop (i * 3)++R1.drop (i * 3 + 3 + (l.length - i) * 3)=(cs.take (i * 3)++(cx++cs.drop (i * 3)))++TL:=by
  rw [hR1];exact Rep.ins_new htk hxl hdl hZl
 have hR1l:R1.length=G * 3:=by
  rw [hR1];simp only [List.length_append,List.length_take,List.length_drop];omega
 have hmin2:Nat.min 1 (l.length + 1 - i)=1:=bT
 have hmin1:Nat.min (l.length - i) (l.length - i)=l.length - i:=Nat.min_self _
 have hcp1:∀ (W:World),W.heap=(w.drew.alloc (.cells (cs.take (i * 3)++Z++TL).toArray 56)).heap→∀ ty dc,(Builtin.copy_ #[36,36] ty #[.slice (some ⟨w.heap.size,i * 3,none⟩) (l.length + 1 - i) dc,.slice (some ⟨vb,0,none⟩) 1 1]).run Try.prog W=.ok (goInt ((1:Nat):Int)) (W.setRow w.heap.size R1.toArray):=fun W hW ty dc=>by
   have q:=Rep.kCt (P:=Try.prog) W 36 36 ty 56 w.heap.size (i * 3) (l.length + 1 - i) dc ⟨vb,0,none⟩ 1 1 3 (cs.take (i * 3)++Z++TL).toArray 56 cx Try.underlying36 hsz (by rw [hW];exact heap_alloc_new w.drew _) (by rw [hmin2,hxl])
     (fun j u hj=>by
       rw [Addr.add_lit,Nat.zero_add,cell_of_row W vb j _ 56 (0,0) (by rw [hW];exact (heap_alloc_old w.drew _ hvw).trans hvb)];simpa using hj) (by simp only [List.size_toArray,List.length_append];omega) h1x
   rw [hmin2,hxl] at q
   rw [hR1]
   exact q
 have hcp2:∀ (W:World),W.heap=((w.drew.alloc (.cells (cs.take (i * 3)++Z++TL).toArray 56)).setRow w.heap.size R1.toArray).heap→∀ ty dc sc,(Builtin.copy_ #[36,36] ty #[.slice (some ⟨w.heap.size,(i + 1) * 3,none⟩) (l.length - i) dc,.slice (some ⟨b,i * 3,none⟩) (l.length - i) sc]).run Try.prog W=.ok (goInt ((l.length - i:Nat):Int)) (W.setRow w.heap.size ((cs.take (i * 3)++(cx++cs.drop (i * 3)))++TL).toArray):=fun W hW ty dc sc=>by
   have q:=Rep.kCt (P:=Try.prog) W 36 36 ty 56 w.heap.size (i * 3 + 3) (l.length - i) dc ⟨b,i * 3,none⟩ (l.length - i) sc 3 R1.toArray 56 (cs.drop (i * 3)) Try.underlying36 hsz (by rw [hW];exact setRow_heap _ w.heap.size _ _ 56 (0,0) (heap_alloc_new w.drew _)) (by rw [hmin1];exact hdl)
     (fun j u hj=>by
       rw [Addr.add_lit,cell_of_row W b _ _ 56 (0,0) (by rw [hW];exact ((setRow_other _ w.heap.size b _ gV).trans (heap_alloc_old w.drew _ hbw)).trans h3)]
       have hq:cs[i * 3 + j]?=some u:=by rwa [List.getElem?_drop] at hj
       simp only [List.getElem?_toArray]
       rw [List.getElem?_append_left (List.getElem?_eq_some_iff.1 hq).1];exact hq) (by simp only [List.size_toArray];omega) (fun u hu=>h1c u (List.mem_of_mem_drop hu))
   rw [hmin1,hdl] at q
   rw [show (i + 1) * 3=i * 3 + 3 by omega]
   rw [← hfin]
   exact q
 have hend:∀ (W:World),W.heap=(((w.drew.alloc (.cells (cs.take (i * 3)++Z++TL).toArray 56)).setRow w.heap.size R1.toArray).setRow w.heap.size ((cs.take (i * 3)++(cx++cs.drop (i * 3)))++TL).toArray).heap→Rep.kT 56 kF W (.slice (some ⟨w.heap.size,0,none⟩) (l.length + 1) G) (l.take i++x :: l.drop i) (fun k=>S k∨(w.heap.size≤k∧k < W.heap.size)):=fun W hW=>by
   refine Rep.own0_at HBD.out Rep.len_ins.symm hGn hG63 (by rw [hW];exact setRow_heap _ w.heap.size _ _ 56 (0,0) (setRow_heap _ w.heap.size _ _ 56 (0,0) (heap_alloc_new w.drew _))) ?_ (.inr ⟨Nat.le_refl _,by rw [hW];simp⟩) (hfrow.out _)
   simp only [List.length_append,List.length_take,List.length_drop];rw [hn3];omega
 have htch:∀ (W:World),W.heap=(((w.drew.alloc (.cells (cs.take (i * 3)++Z++TL).toArray 56)).setRow w.heap.size R1.toArray).setRow w.heap.size ((cs.take (i * 3)++(cx++cs.drop (i * 3)))++TL).toArray).heap→W.os=w.os→W.tape=w.tape→W.output=w.output→Touch S w W:=fun W hW h1 h2 h3=>⟨h1,h2,h3,by rw [hW];simp,fun k hk q=>by
   rw [hW,setRow_other _ _ k _ gV,setRow_other _ _ k _ gV];exact heap_alloc_old w.drew _ hk⟩
 have HE:=yD hend
 have HT:=yD htch
 clear hend htch hfin
 generalize hROW:(cs.take (i * 3)++Z++TL).toArray=ROW at *
 generalize hROW2:((cs.take (i * 3)++(cx++cs.drop (i * 3)))++TL).toArray=ROW2 at *
 generalize hRR:R1.toArray=RR at *
 have hG64:G≤9223372036854775807:=hG63
 have hcp1':=hcp1 ((w.alloc (.cells ROW 56)).drew) rfl
 have hcp2':=hcp2 (((w.alloc (.cells ROW 56)).drew.setRow w.heap.size RR).drew) rfl
 have hGi:¬ (G=i):=gV
 have hGi1:¬ (G=i + 1):=gV
 have hGi2:i≤G:=gV
 have hil:i≤l.length:=Nat.le_of_lt hi
 have hz1:¬ ((i:Int)=(l.length:Int)):=gV
 have hz3:(cap:Int) < (l.length:Int) + 1:=gV
 have hw1:IntKind.i64.wrap ((i:Int) + 1)=(i:Int) + 1:=dS
 have hw2:IntKind.i64.wrap ((l.length:Int) + 1)=(l.length:Int) + 1:=dS
 have hw3:IntKind.i64.wrap ((l.length:Int) + 1 - (i:Int))=(l.length:Int) + 1 - (i:Int):=dS
 have mixed:Try.prog.follows Departure.mixedOrders=true:=gP
 have hb1:(0:Int)≤(i:Int) + 1:=gV
 have htn:((i:Int) + 1).toNat=i + 1:=gV
 have hb3:(i:Int)≤(l.length:Int) + 1:=gV
 have hb4:¬ (cap=i):=gV
 have hb5:(i:Int) + 1≤(l.length:Int) + 1:=gV
 have hb6:i + 1≤l.length + 1:=gV
 have hb7:(i:Int)≤(l.length:Int):=gV
 have hb8:(i:Int)≤(cap:Int):=gV
 have hb9:i≤cap:=gV
 clear h7 h5 h3 hcc hvc hvb hx h1x h1c hfrow HBD hR1 hR1l hROW hROW2 hRR hZV hinf0 hz0 hs0 hby0 hsz
 go_enter Try.func43,Try.ntmps43
 go_wp2_with (first
   | (at_builtin;refine Lib.wpList_append_run _ rfl _ _ _ _ rfl _ _ rfl rfl _ _ (hrz _) ?_)
   | (simp only [hcp1']))
 go_region_law_o (refine step_copy_runI rfl _ _ 36 36 rfl _ _ fE fE (hcp2' _ _ _) ?_)
 go_wp2
 go_ret
 exact ⟨_,rfl,HE.out _ rfl,HT.out _ rfl rfl rfl rfl⟩
theorem kAc {w:World} {v:Value} {l:List kH} {i vb:Nat} {cx:List Value} {x:kH} {S:Nat→Prop} (hl:Rep.kT 56 kF w v l S) (hlen:l.length≤16777216) (hvb:w.heap[vb]?=some (.cells cx.toArray 56 (0,0))) (hvS:¬ S vb) (hx:kF.is true w cx x (fun _=>False)) (hbx:kF.bdd Big x) (hi:i≤l.length) :
    Calls Try.prog 43 #[v,.int .i64 i,.slice (some ⟨vb,0,none⟩) 1 1] w fun e w'=>∃ v',e=.returned v'∧Rep.kT 56 kF w' v' (l.take i++x :: l.drop i) (fun k=>S k∨(w.heap.size≤k∧k < w'.heap.size))∧Touch S w w':=by
 by_cases he:i=l.length
 · exact kCs hl hlen hvb hvS hx hbx he
 obtain ⟨b,cap,rfl,h1,h2,h3,h4⟩:=Rep.yx hl (i:=i) gV
 by_cases hr:l.length + 1≤cap
 · exact kBv hl hlen hvb hvS hx hbx gV hr
 exact kCe hl hlen hvb hvS hx hbx gV gV
end Go.Proofs.Ytpgnbablhdknnaa
