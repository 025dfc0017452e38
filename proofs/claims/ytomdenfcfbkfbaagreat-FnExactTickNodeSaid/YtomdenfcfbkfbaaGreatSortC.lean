/-
  The stable sort: the whole.
-/
import Derived.Test.YtomdenfcfbkfbaaGreatBase
import Derived.Test.YtomdenfcfbkfbaaGreatSortB
import Derived.Test.YtomdenfcfbkfbaaGreatSortR
import Derived.IntWalk
import Derived.Deep.Cut
import Derived.WalkSpells
import Derived.WalkLawsBesides
namespace Go.Proofs.YtomdenfcfbkfbaaGreat
open Go.RowKit
set_option linter.unusedVariables false
set_option linter.unusedSimpArgs false
set_option linter.unnecessarySimpa false
theorem blocks_next {α:Type} {key:α→Int} {n f p:Nat} {cu:List α} (h:p + 20≤n) (hf:n < f + p):∃ f',n < f' + (p + 20)∧Srt.blocks key n f p cu=Srt.blocks key n f' (p + 20) (Srt.insort key p (p + 20) cu):=by
 obtain ⟨g,rfl⟩:∃ g,f=g + 1:=⟨f - 1,by omega⟩
 exact ⟨g,by omega,by rw [Srt.blocks,if_pos h]⟩
theorem blocks_end {α:Type} {key:α→Int} {n f p:Nat} {cu:List α} (h:¬ p + 20≤n) (hp:p≤n) (hf:n < f + p):Srt.blocks key n f p cu=Srt.insort key p n cu:=by
 obtain ⟨g,rfl⟩:∃ g,f=g + 1:=⟨f - 1,by omega⟩
 rw [Srt.blocks,if_neg h]
theorem pass_next {α:Type} {key:α→Int} {n s f p:Nat} {cu:List α} (hs:0 < s) (h:p + 2 * s≤n) (hf:n < f + p):∃ f',n < f' + (p + 2 * s)∧Srt.pass key n s f p cu=Srt.pass key n s f' (p + 2 * s) (Srt.symm key (2 * s) p (p + s) (p + 2 * s) cu):=by
 obtain ⟨g,rfl⟩:∃ g,f=g + 1:=⟨f - 1,by omega⟩
 exact ⟨g,by omega,by rw [Srt.pass,if_pos h]⟩
theorem pass_mid {α:Type} {key:α→Int} {n s f p:Nat} {cu:List α} (h:¬ p + 2 * s≤n) (h2:p + s < n) (hf:n < f + p):Srt.pass key n s f p cu=Srt.symm key (n - p) p (p + s) n cu:=by
 obtain ⟨g,rfl⟩:∃ g,f=g + 1:=⟨f - 1,by omega⟩
 rw [Srt.pass,if_neg h,if_pos h2]
theorem pass_end {α:Type} {key:α→Int} {n s f p:Nat} {cu:List α} (h:¬ p + 2 * s≤n) (h2:¬ p + s < n) (hp:p≤n) (hf:n < f + p):Srt.pass key n s f p cu=cu:=by
 obtain ⟨g,rfl⟩:∃ g,f=g + 1:=⟨f - 1,by omega⟩
 rw [Srt.pass,if_neg h,if_neg h2]
theorem passes_next {α:Type} {key:α→Int} {n s f:Nat} {cu:List α} (hs:0 < s) (h:s < n) (hf:n < f + s):∃ f',n < f' + s * 2∧Srt.passes key n f s cu=Srt.passes key n f' (s * 2) (Srt.pass key n s (n + 1) 0 cu):=by
 obtain ⟨g,rfl⟩:∃ g,f=g + 1:=⟨f - 1,by omega⟩
 exact ⟨g,by omega,by rw [Srt.passes,if_pos h,Nat.mul_comm]⟩
theorem passes_end {α:Type} {key:α→Int} {n s f:Nat} {cu:List α} (h:¬ s < n):Srt.passes key n f s cu=cu:=by
 cases f with
 | zero=>rfl
 | succ f=>rw [Srt.passes,if_neg h]
set_option maxHeartbeats 400000 in
theorem insort_int_none {w:World} {v:Value} {g:FuncId} {cp:Array Value}:Calls Tryz.prog 236 #[v,.int .i64 (0:Nat),.int .i64 (0:Nat),.func (.func g) #[] cp] w fun e w'=>e=.returned (.tuple #[])∧w'=w:=by
 go_enter Tryz.func236,Tryz.ntmps236
 go_wp2
 go_loopw [8] (fun i wr=>i=.int .i64 1∧wr=w) (fun i _=>0)
 case atStart=>exact ⟨rfl,rfl⟩
 obtain ⟨rfl,hw⟩:=hrel
 obtain rfl:=hw
 go_wp2
 go_end0
 exact ⟨rfl,rfl⟩
set_option maxHeartbeats 1000000 in
theorem stable_int_none {w:World} {v:Value} {g:FuncId} {cp:Array Value}:Calls Tryz.prog 229 #[v,.int .i64 (0:Nat),.func (.func g) #[] cp] w fun e w'=>e=.returned (.tuple #[])∧w'=w:=by
 go_enter Tryz.func229,Tryz.ntmps229
 go_wp2
 go_loopw [7,8] (fun i j wr=>i=.int .i64 0∧j=.int .i64 20∧wr=w) (fun i j _=>0)
 case atStart=>exact ⟨rfl,rfl,rfl⟩
 obtain ⟨rfl,rfl,hw⟩:=hrel
 obtain rfl:=hw
 go_wp2_with fail
 refine insort_int_none.mono ?_
 rintro e w2 ⟨rfl,hw2⟩
 obtain rfl:=hw2.symm
 go_wp2
 go_loopw [6,7,8] (fun i _ _ wx=>i=.int .i64 20∧wx=wr) (fun i _ _ _=>0)
 case atStart=>exact ⟨rfl,rfl⟩
 obtain ⟨rfl,hw⟩:=hrel
 obtain rfl:=hw
 go_wp2
 go_end0
 exact ⟨rfl,rfl⟩
set_option maxRecDepth 100000 in
set_option maxHeartbeats 4000000 in
theorem stable_int_c {w:World} {b n cap:Nat} {xs:List Int} {S:Nat→Prop} {g:FuncId} {cp:Array Value} (key:Int→Int) (hg:Callable Tryz.prog g) (hcl:Cmp_int key g cp S w) (h:Rep.own0 3 Rep.int w (.slice (some ⟨b,0,none⟩) n cap) xs S) (hn:n=xs.length) (hlen:xs.length≤16777216) :
    Calls Tryz.prog 229 #[.slice (some ⟨b,0,none⟩) n cap,.int .i64 (n:Nat),.func (.func g) #[] cp] w fun e w'=>e=.returned (.tuple #[])∧Rep.own0 3 Rep.int w' (.slice (some ⟨b,0,none⟩) n cap) (Srt.stable key xs) S∧Touch S w w':=by
 have HCL:=hD hcl
 have HCG:=hD hg
 have HO0:=hD h
 have HN0:=hD hn
 have HSB:Hid (Srt.stable key xs=Srt.passes key n (n + 1) 20 (Srt.blocks key n (n + 1) 0 xs)):=hD (by rw [hn];rfl)
 have hnB:n≤16777216:=by omega
 clear h hcl hlen hn hg
 have hnI:(n:Int)≤16777216:=by omega
 have hn0:=Int.natCast_nonneg n
 go_enter Tryz.func229,Tryz.ntmps229
 go_wp2
 go_loopw [7,8] (fun i j wr=>∃ (p f:Nat) (cu:List Int),i=.int .i64 p∧j=.int .i64 ((p:Int) + 20)∧p≤n∧Hid (n < f + p)∧Hid (Srt.blocks key n f p cu=Srt.blocks key n (n + 1) 0 xs)∧Hid (cu.length=n)∧Hid (Rep.own0 3 Rep.int wr (.slice (some ⟨b,0,none⟩) n cap) cu S)∧Hid (Touch S w wr)) (fun i _ _=>n - (intOf i).toNat)
 case atStart=>exact ⟨0,n + 1,xs,rfl,rfl,Nat.zero_le _,hD (by omega),hD rfl,hD HN0.out.symm,HO0,hD (Touch.refl _ _)⟩
 obtain ⟨p,f,cu,rfl,rfl,hpn,HFU,HB,HL,HO,HT⟩:=hrel
 have hp0:=Int.natCast_nonneg p
 by_cases hlt:p + 20≤n
 · have hltI:(p:Int) + 20≤n:=by omega
   obtain ⟨f',hf',hbn⟩:=blocks_next (key:=key) (cu:=cu) hlt HFU.out
   have HF':=hD hf'
   obtain ⟨q,hq⟩:∃ q,p + 20=q:=⟨_,rfl⟩
   have hqI:(p:Int) + 20=(q:Int):=by omega
   rw [hq] at hbn
   have HBN:=hD (hbn.symm.trans HB.out);clear hbn hf'
   have hwq:IntKind.i64.wrap (q:Int)=q:=IntWalk.i64_in _ (by omega)
   go_wp2_with fail
   refine (insort_int_c (n:=n) (b:=b) key HCG.out (Cmp_int_later HCL.out HT.out) HO.out HL.out.symm (by have:=HL.out;omega) (a:=p) (z:=q) (by omega) (by have:=HL.out;omega)).mono ?_
   rintro e w2 ⟨rfl,O2,T2⟩
   have HO2:=hD O2;have HT2:=hD (HT.out.trans T2);clear O2 T2
   have HL2:Hid ((Srt.insort key p q cu).length=n):=hD (by rw [Srt.insort_length];exact HL.out)
   go_wp2
   go_roundw
   case rel=>exact ⟨q,f',_,rfl,by first | rfl|(go_num),by omega,hD (by have:=HF'.out;omega),HBN,HL2,HO2,HT2⟩
   simp [intOf];omega
 have hltI:¬ (p:Int) + 20≤n:=by omega
 have HBN:=hD (HB.out.symm.trans (blocks_end (key:=key) (cu:=cu) hlt hpn HFU.out))
 go_wp2_with fail
 refine (insort_int_c (n:=n) (b:=b) key HCG.out (Cmp_int_later HCL.out HT.out) HO.out HL.out.symm (by have:=HL.out;omega) (a:=p) (z:=n) hpn (by have:=HL.out;omega)).mono ?_
 rintro e w2 ⟨rfl,O2,T2⟩
 have HL2:Hid ((Srt.blocks key n (n + 1) 0 xs).length=n):=hD (by rw [Srt.blocks_length];exact HN0.out.symm)
 have HO2:=hD (O2.cast HBN.out.symm);have HT2:=hD (HT.out.trans T2);clear O2 T2
 generalize Srt.blocks key n (n + 1) 0 xs=B at *
 clear hlt hltI HBN HO HT HL HB HFU
 go_wp2
 go_loopw [6,7,8] (fun i _ _ wr=>∃ (s f:Nat) (cu:List Int),i=.int .i64 s∧20≤s∧s≤33554432∧Hid (n < f + s)∧Hid (Srt.passes key n f s cu=Srt.passes key n (n + 1) 20 B)∧Hid (cu.length=n)∧Hid (Rep.own0 3 Rep.int wr (.slice (some ⟨b,0,none⟩) n cap) cu S)∧Hid (Touch S w wr)) (fun i _ _ _=>n - (intOf i).toNat)
 case atStart=>exact ⟨20,n + 1,B,rfl,Nat.le_refl _,by omega,hD (by omega),hD rfl,HL2,HO2,HT2⟩
 obtain ⟨s,f,cu,rfl,hs20,hsB,HFU,HB,HL,HO,HT⟩:=hrel
 have hs0:(20:Int)≤s:=by omega
 by_cases hlt:s < n
 · have hltI:(s:Int) < n:=by omega
   obtain ⟨f',hf',hbn⟩:=passes_next (key:=key) (cu:=cu) (by omega) hlt HFU.out
   have HF':=hD hf';have HPN:=hD (hbn.symm.trans HB.out);clear hf' hbn
   obtain ⟨s2,hs2⟩:∃ s2,2 * s=s2:=⟨_,rfl⟩
   have hs2I:2 * (s:Int)=(s2:Int):=by omega
   have hs2J:(s:Int) * 2=(s2:Int):=by omega
   have hws2:IntKind.i64.wrap (s2:Int)=s2:=IntWalk.i64_in _ (by omega)
   have hs20':=Int.natCast_nonneg s2
   go_wp2
   go_loopw [7,8] (fun i j wr=>∃ (p f2:Nat) (cv:List Int),i=.int .i64 p∧j=.int .i64 ((p:Int) + (s2:Int))∧p≤n∧Hid (n < f2 + p)∧Hid (Srt.pass key n s f2 p cv=Srt.pass key n s (n + 1) 0 cu)∧Hid (cv.length=n)∧Hid (Rep.own0 3 Rep.int wr (.slice (some ⟨b,0,none⟩) n cap) cv S)∧Hid (Touch S w wr)) (fun i _ _=>n - (intOf i).toNat)
   case atStart=>exact ⟨0,n + 1,cu,rfl,by first | rfl|(simp;done) | go_num,Nat.zero_le _,hD (by omega),hD rfl,HL,HO,HT⟩
   obtain ⟨p,f2,cv,rfl,rfl,hpn,HFU2,HB2,HL2,HO2,HT2⟩:=hrel
   have hp0:=Int.natCast_nonneg p
   obtain ⟨ps,hps⟩:∃ ps,p + s=ps:=⟨_,rfl⟩
   have hpsI:(p:Int) + (s:Int)=(ps:Int):=by omega
   have hwps:IntKind.i64.wrap (ps:Int)=ps:=IntWalk.i64_in _ (by omega)
   obtain ⟨q,hq⟩:∃ q,p + s2=q:=⟨_,rfl⟩
   have hqI:(p:Int) + (s2:Int)=(q:Int):=by omega
   have hwq:IntKind.i64.wrap (q:Int)=q:=IntWalk.i64_in _ (by omega)
   by_cases hl2:p + 2 * s≤n
   · have hqn:(q:Int)≤n:=by omega
     obtain ⟨f3,hf3,hbn⟩:=pass_next (key:=key) (cu:=cv) (by omega:0 < s) hl2 HFU2.out
     rw [hs2,hq,hps] at hbn
     have HF3:=hD hf3;have HPN2:=hD (hbn.symm.trans HB2.out);clear hf3 hbn
     go_wp2_with fail
     refine (symm_int_c (n:=n) (b:=b) key HCG.out s2 (Cmp_int_later HCL.out HT2.out) HO2.out HL2.out.symm (by have:=HL2.out;omega) (a:=p) (m:=ps) (z:=q) (by omega) (by omega) (by have:=HL2.out;omega) (by omega)).mono ?_
     rintro e w2 ⟨rfl,O2,T2⟩
     have HO3:=hD O2;have HT3:=hD (HT2.out.trans T2);clear O2 T2
     have HL3:Hid ((Srt.symm key s2 p ps q cv).length=n):=hD (by rw [Srt.symm_length];exact HL2.out)
     go_wp2
     go_roundw
     case rel=>exact ⟨q,f3,_,rfl,by first | rfl|(go_num),by omega,hD (by have:=HF3.out;omega),HPN2,HL3,HO3,HT3⟩
     simp [intOf];omega
   have hqn:¬ (q:Int)≤n:=by omega
   by_cases hm:p + s < n
   · have hmI:(ps:Int) < n:=by omega
     have HPE:=hD ((pass_mid (key:=key) (cu:=cv) hl2 hm HFU2.out).symm.trans HB2.out)
     rw [hps] at HPE
     go_wp2_with fail
     refine (symm_int_c (n:=n) (b:=b) key HCG.out (n - p) (Cmp_int_later HCL.out HT2.out) HO2.out HL2.out.symm (by have:=HL2.out;omega) (a:=p) (m:=ps) (z:=n) (by omega) (by omega) (by have:=HL2.out;omega) (by omega)).mono ?_
     rintro e w2 ⟨rfl,O2,T2⟩
     have HO3:=hD (O2.cast HPE.out);have HT3:=hD (HT2.out.trans T2);clear O2 T2
     have HL3:Hid ((Srt.pass key n s (n + 1) 0 cu).length=n):=hD (by rw [Srt.pass_length];exact HL.out)
     go_wp2
     go_roundw
     case rel=>exact ⟨s2,f',_,rfl,by omega,by omega,hD (by have:=HF'.out;omega),hD (by rw [← hs2,Nat.mul_comm];exact HPN.out),HL3,HO3,HT3⟩
     simp [intOf];omega
   have hmI:¬ (ps:Int) < n:=by omega
   have HPE:=hD ((pass_end (key:=key) (cu:=cv) hl2 hm hpn HFU2.out).symm.trans HB2.out)
   have HO3:=hD (HO2.out.cast HPE.out)
   have HL3:Hid ((Srt.pass key n s (n + 1) 0 cu).length=n):=hD (by rw [Srt.pass_length];exact HL.out)
   go_wp2
   go_roundw
   case rel=>exact ⟨s2,f',_,rfl,by omega,by omega,hD (by have:=HF'.out;omega),hD (by rw [← hs2,Nat.mul_comm];exact HPN.out),HL3,HO3,HT2⟩
   simp [intOf];omega
 have hltI:¬ (s:Int) < n:=by omega
 have HE:=hD ((passes_end (key:=key) (f:=f) (cu:=cu) hlt).symm.trans (HB.out.trans HSB.out.symm))
 go_wp2
 go_end0
 exact ⟨rfl,HO.out.cast HE.out,HT.out⟩
set_option maxHeartbeats 400000 in
theorem SortStable_int_c {w:World} {v:Value} {xs:List Int} {S:Nat→Prop} {g:FuncId} {cp:Array Value} (key:Int→Int) (hg:Callable Tryz.prog g) (hcl:Cmp_int key g cp S w) (h:Rep.own0 3 Rep.int w v xs S) (hlen:xs.length≤16777216) :
    Calls Tryz.prog 205 #[v,.func (.func g) #[] cp] w fun e w'=>e=.returned (.tuple #[])∧Rep.own0 3 Rep.int w' v (Srt.stable key xs) S∧Touch S w w':=by
 rcases Nat.eq_zero_or_pos xs.length with h0 | h0
 · obtain ⟨a,cap,rfl⟩:=h.none_iff
   obtain rfl:xs=[]:=List.eq_nil_of_length_eq_zero h0
   have hst:Srt.stable key ([]:List Int)=[]:=List.eq_nil_of_length_eq_zero (by rw [Srt.stable_length];rfl)
   have HO:=hD (h.cast hst.symm)
   have HNN:=hD (stable_int_none (w:=w) (v:=.slice a 0 cap) (g:=g) (cp:=cp))
   clear h hcl hg hst
   simp only [List.length_nil] at *
   go_enter Tryz.func205,Tryz.ntmps205
   go_wp2_with fail
   refine HNN.out.mono ?_
   rintro e w2 ⟨rfl,hw2⟩
   obtain rfl:=hw2.symm
   go_wp2
   go_end0
   exact ⟨rfl,HO.out,Touch.refl _ _⟩
 obtain ⟨b,cap,rfl,_⟩:=Rep.own0_addr h h0
 have HC:=hD (stable_int_c key hg hcl h rfl hlen)
 clear h hcl hg hlen h0
 go_enter Tryz.func205,Tryz.ntmps205
 go_wp2_with fail
 refine HC.out.mono ?_
 rintro e w2 ⟨rfl,O2,T2⟩
 have HO2:=hD O2;have HT2:=hD T2;clear O2 T2
 go_wp2
 go_end0
 exact ⟨rfl,HO2.out,HT2.out⟩
set_option maxHeartbeats 400000 in
theorem insort_Route_none {w:World} {v:Value} {g:FuncId} {cp:Array Value}:Calls Tryz.prog 234 #[v,.int .i64 (0:Nat),.int .i64 (0:Nat),.func (.func g) #[] cp] w fun e w'=>e=.returned (.tuple #[])∧w'=w:=by
 go_enter Tryz.func234,Tryz.ntmps234
 go_wp2
 go_loopw [8] (fun i wr=>i=.int .i64 1∧wr=w) (fun i _=>0)
 case atStart=>exact ⟨rfl,rfl⟩
 obtain ⟨rfl,hw⟩:=hrel
 obtain rfl:=hw
 go_wp2
 go_end0
 exact ⟨rfl,rfl⟩
set_option maxHeartbeats 1000000 in
theorem stable_Route_none {w:World} {v:Value} {g:FuncId} {cp:Array Value}:Calls Tryz.prog 227 #[v,.int .i64 (0:Nat),.func (.func g) #[] cp] w fun e w'=>e=.returned (.tuple #[])∧w'=w:=by
 go_enter Tryz.func227,Tryz.ntmps227
 go_wp2
 go_loopw [7,8] (fun i j wr=>i=.int .i64 0∧j=.int .i64 20∧wr=w) (fun i j _=>0)
 case atStart=>exact ⟨rfl,rfl,rfl⟩
 obtain ⟨rfl,rfl,hw⟩:=hrel
 obtain rfl:=hw
 go_wp2_with fail
 refine insort_Route_none.mono ?_
 rintro e w2 ⟨rfl,hw2⟩
 obtain rfl:=hw2.symm
 go_wp2
 go_loopw [6,7,8] (fun i _ _ wx=>i=.int .i64 20∧wx=wr) (fun i _ _ _=>0)
 case atStart=>exact ⟨rfl,rfl⟩
 obtain ⟨rfl,hw⟩:=hrel
 obtain rfl:=hw
 go_wp2
 go_end0
 exact ⟨rfl,rfl⟩
set_option maxRecDepth 100000 in
set_option maxHeartbeats 4000000 in
theorem stable_Route_c {w:World} {b n cap:Nat} {xs:List LRoute} {S:Nat→Prop} {g:FuncId} {cp:Array Value} (key:LRoute→Int) (hg:Callable Tryz.prog g) (hcl:Cmp_Route key g cp S w) (h:Rep.own0 159 RRoute w (.slice (some ⟨b,0,none⟩) n cap) xs S) (hn:n=xs.length) (hlen:xs.length≤16777216) :
    Calls Tryz.prog 227 #[.slice (some ⟨b,0,none⟩) n cap,.int .i64 (n:Nat),.func (.func g) #[] cp] w fun e w'=>e=.returned (.tuple #[])∧Rep.own0 159 RRoute w' (.slice (some ⟨b,0,none⟩) n cap) (Srt.stable key xs) S∧Touch S w w':=by
 have HCL:=hD hcl
 have HCG:=hD hg
 have HO0:=hD h
 have HN0:=hD hn
 have HSB:Hid (Srt.stable key xs=Srt.passes key n (n + 1) 20 (Srt.blocks key n (n + 1) 0 xs)):=hD (by rw [hn];rfl)
 have hnB:n≤16777216:=by omega
 clear h hcl hlen hn hg
 have hnI:(n:Int)≤16777216:=by omega
 have hn0:=Int.natCast_nonneg n
 go_enter Tryz.func227,Tryz.ntmps227
 go_wp2
 go_loopw [7,8] (fun i j wr=>∃ (p f:Nat) (cu:List LRoute),i=.int .i64 p∧j=.int .i64 ((p:Int) + 20)∧p≤n∧Hid (n < f + p)∧Hid (Srt.blocks key n f p cu=Srt.blocks key n (n + 1) 0 xs)∧Hid (cu.length=n)∧Hid (Rep.own0 159 RRoute wr (.slice (some ⟨b,0,none⟩) n cap) cu S)∧Hid (Touch S w wr)) (fun i _ _=>n - (intOf i).toNat)
 case atStart=>exact ⟨0,n + 1,xs,rfl,rfl,Nat.zero_le _,hD (by omega),hD rfl,hD HN0.out.symm,HO0,hD (Touch.refl _ _)⟩
 obtain ⟨p,f,cu,rfl,rfl,hpn,HFU,HB,HL,HO,HT⟩:=hrel
 have hp0:=Int.natCast_nonneg p
 by_cases hlt:p + 20≤n
 · have hltI:(p:Int) + 20≤n:=by omega
   obtain ⟨f',hf',hbn⟩:=blocks_next (key:=key) (cu:=cu) hlt HFU.out
   have HF':=hD hf'
   obtain ⟨q,hq⟩:∃ q,p + 20=q:=⟨_,rfl⟩
   have hqI:(p:Int) + 20=(q:Int):=by omega
   rw [hq] at hbn
   have HBN:=hD (hbn.symm.trans HB.out);clear hbn hf'
   have hwq:IntKind.i64.wrap (q:Int)=q:=IntWalk.i64_in _ (by omega)
   go_wp2_with fail
   refine (insort_Route_c (n:=n) (b:=b) key HCG.out (Cmp_Route_later HCL.out HT.out) HO.out HL.out.symm (by have:=HL.out;omega) (a:=p) (z:=q) (by omega) (by have:=HL.out;omega)).mono ?_
   rintro e w2 ⟨rfl,O2,T2⟩
   have HO2:=hD O2;have HT2:=hD (HT.out.trans T2);clear O2 T2
   have HL2:Hid ((Srt.insort key p q cu).length=n):=hD (by rw [Srt.insort_length];exact HL.out)
   go_wp2
   go_roundw
   case rel=>exact ⟨q,f',_,rfl,by first | rfl|(go_num),by omega,hD (by have:=HF'.out;omega),HBN,HL2,HO2,HT2⟩
   simp [intOf];omega
 have hltI:¬ (p:Int) + 20≤n:=by omega
 have HBN:=hD (HB.out.symm.trans (blocks_end (key:=key) (cu:=cu) hlt hpn HFU.out))
 go_wp2_with fail
 refine (insort_Route_c (n:=n) (b:=b) key HCG.out (Cmp_Route_later HCL.out HT.out) HO.out HL.out.symm (by have:=HL.out;omega) (a:=p) (z:=n) hpn (by have:=HL.out;omega)).mono ?_
 rintro e w2 ⟨rfl,O2,T2⟩
 have HL2:Hid ((Srt.blocks key n (n + 1) 0 xs).length=n):=hD (by rw [Srt.blocks_length];exact HN0.out.symm)
 have HO2:=hD (O2.cast HBN.out.symm);have HT2:=hD (HT.out.trans T2);clear O2 T2
 generalize Srt.blocks key n (n + 1) 0 xs=B at *
 clear hlt hltI HBN HO HT HL HB HFU
 go_wp2
 go_loopw [6,7,8] (fun i _ _ wr=>∃ (s f:Nat) (cu:List LRoute),i=.int .i64 s∧20≤s∧s≤33554432∧Hid (n < f + s)∧Hid (Srt.passes key n f s cu=Srt.passes key n (n + 1) 20 B)∧Hid (cu.length=n)∧Hid (Rep.own0 159 RRoute wr (.slice (some ⟨b,0,none⟩) n cap) cu S)∧Hid (Touch S w wr)) (fun i _ _ _=>n - (intOf i).toNat)
 case atStart=>exact ⟨20,n + 1,B,rfl,Nat.le_refl _,by omega,hD (by omega),hD rfl,HL2,HO2,HT2⟩
 obtain ⟨s,f,cu,rfl,hs20,hsB,HFU,HB,HL,HO,HT⟩:=hrel
 have hs0:(20:Int)≤s:=by omega
 by_cases hlt:s < n
 · have hltI:(s:Int) < n:=by omega
   obtain ⟨f',hf',hbn⟩:=passes_next (key:=key) (cu:=cu) (by omega) hlt HFU.out
   have HF':=hD hf';have HPN:=hD (hbn.symm.trans HB.out);clear hf' hbn
   obtain ⟨s2,hs2⟩:∃ s2,2 * s=s2:=⟨_,rfl⟩
   have hs2I:2 * (s:Int)=(s2:Int):=by omega
   have hs2J:(s:Int) * 2=(s2:Int):=by omega
   have hws2:IntKind.i64.wrap (s2:Int)=s2:=IntWalk.i64_in _ (by omega)
   have hs20':=Int.natCast_nonneg s2
   go_wp2
   go_loopw [7,8] (fun i j wr=>∃ (p f2:Nat) (cv:List LRoute),i=.int .i64 p∧j=.int .i64 ((p:Int) + (s2:Int))∧p≤n∧Hid (n < f2 + p)∧Hid (Srt.pass key n s f2 p cv=Srt.pass key n s (n + 1) 0 cu)∧Hid (cv.length=n)∧Hid (Rep.own0 159 RRoute wr (.slice (some ⟨b,0,none⟩) n cap) cv S)∧Hid (Touch S w wr)) (fun i _ _=>n - (intOf i).toNat)
   case atStart=>exact ⟨0,n + 1,cu,rfl,by first | rfl|(simp;done) | go_num,Nat.zero_le _,hD (by omega),hD rfl,HL,HO,HT⟩
   obtain ⟨p,f2,cv,rfl,rfl,hpn,HFU2,HB2,HL2,HO2,HT2⟩:=hrel
   have hp0:=Int.natCast_nonneg p
   obtain ⟨ps,hps⟩:∃ ps,p + s=ps:=⟨_,rfl⟩
   have hpsI:(p:Int) + (s:Int)=(ps:Int):=by omega
   have hwps:IntKind.i64.wrap (ps:Int)=ps:=IntWalk.i64_in _ (by omega)
   obtain ⟨q,hq⟩:∃ q,p + s2=q:=⟨_,rfl⟩
   have hqI:(p:Int) + (s2:Int)=(q:Int):=by omega
   have hwq:IntKind.i64.wrap (q:Int)=q:=IntWalk.i64_in _ (by omega)
   by_cases hl2:p + 2 * s≤n
   · have hqn:(q:Int)≤n:=by omega
     obtain ⟨f3,hf3,hbn⟩:=pass_next (key:=key) (cu:=cv) (by omega:0 < s) hl2 HFU2.out
     rw [hs2,hq,hps] at hbn
     have HF3:=hD hf3;have HPN2:=hD (hbn.symm.trans HB2.out);clear hf3 hbn
     go_wp2_with fail
     refine (symm_Route_c (n:=n) (b:=b) key HCG.out s2 (Cmp_Route_later HCL.out HT2.out) HO2.out HL2.out.symm (by have:=HL2.out;omega) (a:=p) (m:=ps) (z:=q) (by omega) (by omega) (by have:=HL2.out;omega) (by omega)).mono ?_
     rintro e w2 ⟨rfl,O2,T2⟩
     have HO3:=hD O2;have HT3:=hD (HT2.out.trans T2);clear O2 T2
     have HL3:Hid ((Srt.symm key s2 p ps q cv).length=n):=hD (by rw [Srt.symm_length];exact HL2.out)
     go_wp2
     go_roundw
     case rel=>exact ⟨q,f3,_,rfl,by first | rfl|(go_num),by omega,hD (by have:=HF3.out;omega),HPN2,HL3,HO3,HT3⟩
     simp [intOf];omega
   have hqn:¬ (q:Int)≤n:=by omega
   by_cases hm:p + s < n
   · have hmI:(ps:Int) < n:=by omega
     have HPE:=hD ((pass_mid (key:=key) (cu:=cv) hl2 hm HFU2.out).symm.trans HB2.out)
     rw [hps] at HPE
     go_wp2_with fail
     refine (symm_Route_c (n:=n) (b:=b) key HCG.out (n - p) (Cmp_Route_later HCL.out HT2.out) HO2.out HL2.out.symm (by have:=HL2.out;omega) (a:=p) (m:=ps) (z:=n) (by omega) (by omega) (by have:=HL2.out;omega) (by omega)).mono ?_
     rintro e w2 ⟨rfl,O2,T2⟩
     have HO3:=hD (O2.cast HPE.out);have HT3:=hD (HT2.out.trans T2);clear O2 T2
     have HL3:Hid ((Srt.pass key n s (n + 1) 0 cu).length=n):=hD (by rw [Srt.pass_length];exact HL.out)
     go_wp2
     go_roundw
     case rel=>exact ⟨s2,f',_,rfl,by omega,by omega,hD (by have:=HF'.out;omega),hD (by rw [← hs2,Nat.mul_comm];exact HPN.out),HL3,HO3,HT3⟩
     simp [intOf];omega
   have hmI:¬ (ps:Int) < n:=by omega
   have HPE:=hD ((pass_end (key:=key) (cu:=cv) hl2 hm hpn HFU2.out).symm.trans HB2.out)
   have HO3:=hD (HO2.out.cast HPE.out)
   have HL3:Hid ((Srt.pass key n s (n + 1) 0 cu).length=n):=hD (by rw [Srt.pass_length];exact HL.out)
   go_wp2
   go_roundw
   case rel=>exact ⟨s2,f',_,rfl,by omega,by omega,hD (by have:=HF'.out;omega),hD (by rw [← hs2,Nat.mul_comm];exact HPN.out),HL3,HO3,HT2⟩
   simp [intOf];omega
 have hltI:¬ (s:Int) < n:=by omega
 have HE:=hD ((passes_end (key:=key) (f:=f) (cu:=cu) hlt).symm.trans (HB.out.trans HSB.out.symm))
 go_wp2
 go_end0
 exact ⟨rfl,HO.out.cast HE.out,HT.out⟩
set_option maxHeartbeats 400000 in
theorem SortStable_Route_c {w:World} {v:Value} {xs:List LRoute} {S:Nat→Prop} {g:FuncId} {cp:Array Value} (key:LRoute→Int) (hg:Callable Tryz.prog g) (hcl:Cmp_Route key g cp S w) (h:Rep.own0 159 RRoute w v xs S) (hlen:xs.length≤16777216) :
    Calls Tryz.prog 200 #[v,.func (.func g) #[] cp] w fun e w'=>e=.returned (.tuple #[])∧Rep.own0 159 RRoute w' v (Srt.stable key xs) S∧Touch S w w':=by
 rcases Nat.eq_zero_or_pos xs.length with h0 | h0
 · obtain ⟨a,cap,rfl⟩:=h.none_iff
   obtain rfl:xs=[]:=List.eq_nil_of_length_eq_zero h0
   have hst:Srt.stable key ([]:List LRoute)=[]:=List.eq_nil_of_length_eq_zero (by rw [Srt.stable_length];rfl)
   have HO:=hD (h.cast hst.symm)
   have HNN:=hD (stable_Route_none (w:=w) (v:=.slice a 0 cap) (g:=g) (cp:=cp))
   clear h hcl hg hst
   simp only [List.length_nil] at *
   go_enter Tryz.func200,Tryz.ntmps200
   go_wp2_with fail
   refine HNN.out.mono ?_
   rintro e w2 ⟨rfl,hw2⟩
   obtain rfl:=hw2.symm
   go_wp2
   go_end0
   exact ⟨rfl,HO.out,Touch.refl _ _⟩
 obtain ⟨b,cap,rfl,_⟩:=Rep.own0_addr h h0
 have HC:=hD (stable_Route_c key hg hcl h rfl hlen)
 clear h hcl hg hlen h0
 go_enter Tryz.func200,Tryz.ntmps200
 go_wp2_with fail
 refine HC.out.mono ?_
 rintro e w2 ⟨rfl,O2,T2⟩
 have HO2:=hD O2;have HT2:=hD T2;clear O2 T2
 go_wp2
 go_end0
 exact ⟨rfl,HO2.out,HT2.out⟩
end Go.Proofs.YtomdenfcfbkfbaaGreat
