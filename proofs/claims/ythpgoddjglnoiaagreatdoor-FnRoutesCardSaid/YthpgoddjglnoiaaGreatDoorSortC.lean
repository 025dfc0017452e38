/-
  The stable sort: the whole.
-/
import Derived.Test.YthpgoddjglnoiaaGreatDoorSortR
set_option linter.unusedVariables false
set_option linter.unusedSimpArgs false
set_option linter.unnecessarySimpa false
set_option maxRecDepth 100000
set_option maxHeartbeats 4000000
namespace Go.Proofs.YthpgoddjglnoiaaGreatDoor
open Go.RowKit
theorem blocks_next {α:Type} {key:α→Int} {n f p:Nat} {cu:List α} (h:p + 20≤n) (hf:n < f + p):∃ f',n < f' + (p + 20)∧Srt.blocks key n f p cu=Srt.blocks key n f' (p + 20) (Srt.yf key p (p + 20) cu):=by
 obtain ⟨g,rfl⟩:∃ g,f=g + 1:=⟨f - 1,by omega⟩
 exact ⟨g,by omega,by rw [Srt.blocks,if_pos h]⟩
theorem blocks_end {α:Type} {key:α→Int} {n f p:Nat} {cu:List α} (h:¬ p + 20≤n) (hp:p≤n) (hf:n < f + p):Srt.blocks key n f p cu=Srt.yf key p n cu:=by
 obtain ⟨g,rfl⟩:∃ g,f=g + 1:=⟨f - 1,by omega⟩
 rw [Srt.blocks,if_neg h]
theorem pass_next {α:Type} {key:α→Int} {n s f p:Nat} {cu:List α} (hs:0 < s) (h:p + 2 * s≤n) (hf:n < f + p):∃ f',n < f' + (p + 2 * s)∧Srt.pass key n s f p cu=Srt.pass key n s f' (p + 2 * s) (Srt.symm key (2 * s) p (p + s) (p + 2 * s) cu):=by
 obtain ⟨g,rfl⟩:∃ g,f=g + 1:=⟨f - 1,by omega⟩
 exact ⟨g,by omega,by rw [Srt.pass,if_pos h]⟩
theorem pass_mid {α:Type} {key:α→Int} {n s f p:Nat} {cu:List α} (h:¬ p + 2 * s≤n) (h2:p + s < n) (hf:n < f + p):Srt.pass key n s f p cu=Srt.symm key (n - p) p (p + s) n cu:=by
 obtain ⟨g,rfl⟩:∃ g,f=g + 1:=⟨f - 1,by omega⟩
 rw [Srt.pass,if_neg h,if_pos h2]
theorem pass_end {α:Type} {key:α→Int} {n s f p:Nat} {cu:List α} (h:¬ p + 2 * s≤n) (h2:¬ p + s < n) (hp:p≤n) (hf:n < f + p):Srt.pass key n s f p cu=cu:=by
 obtain ⟨g,rfl⟩:∃ g,f=g + 1:=⟨f - 1,by omega⟩
 rw [Srt.pass,if_neg h,if_neg h2]
theorem passes_next {α:Type} {key:α→Int} {n s f:Nat} {cu:List α} (hs:0 < s) (h:s < n) (hf:n < f + s):∃ f',n < f' + s * 2∧Srt.passes key n f s cu=Srt.passes key n f' (s * 2) (Srt.pass key n s (n + 1) 0 cu):=by
 obtain ⟨g,rfl⟩:∃ g,f=g + 1:=⟨f - 1,by omega⟩
 exact ⟨g,by omega,by rw [Srt.passes,if_pos h,Nat.mul_comm]⟩
theorem passes_end {α:Type} {key:α→Int} {n s f:Nat} {cu:List α} (h:¬ s < n):Srt.passes key n f s cu=cu:=by
 cases f with
 | zero=>rfl
 | succ f=>rw [Srt.passes,if_neg h]
theorem kDv {w:World} {v:Value} {g:FuncId} {cp:Array Value}:Calls Tryz.prog 85 #[v,.int .i64 (0:Nat),.int .i64 (0:Nat),.func (.func g) #[] cp] w fun e w'=>e=.returned (.tuple #[])∧w'=w:=by
 go_enter Tryz.func85,Tryz.ntmps85
 go_wp2
 go_loopw [8] (fun i wr=>i=.int .i64 1∧wr=w) (fun i _=>0)
 case atStart=>exact ⟨rfl,rfl⟩
 obtain ⟨rfl,hw⟩:=hrel
 obtain rfl:=hw
 go_wp2
 go_end0
 exact ⟨rfl,rfl⟩
theorem kDl {w:World} {v:Value} {g:FuncId} {cp:Array Value}:Calls Tryz.prog 71 #[v,.int .i64 (0:Nat),.func (.func g) #[] cp] w fun e w'=>e=.returned (.tuple #[])∧w'=w:=by
 go_enter Tryz.func71,Tryz.ntmps71
 go_wp2
 go_loopw [7,8] (fun i j wr=>i=.int .i64 0∧j=.int .i64 20∧wr=w) (fun i j _=>0)
 case atStart=>exact ⟨rfl,rfl,rfl⟩
 obtain ⟨rfl,rfl,hw⟩:=hrel
 obtain rfl:=hw
 go_wp2_with fail
 refine kDv.mono ?_
 rintro e w2 ⟨rfl,hw2⟩
 obtain rfl:=hw2.symm
 go_wp2
 go_loopw [6,7,8] (fun i _ _ wx=>i=.int .i64 20∧wx=wr) (fun i _ _ _=>0)
 case atStart=>exact ⟨rfl,rfl⟩
 obtain ⟨rfl,hw⟩:=hrel
 obtain rfl:=hw
 go_wp2
 go_end0
 exact ⟨rfl,rfl⟩
theorem kGh {w:World} {b n cap:Nat} {xs:List kD} {S:Nat→Prop} {g:FuncId} {cp:Array Value} (key:kD→Int) (hg:kY Tryz.prog g) (hcl:jZ key g cp S w) (h:Rep.kH 29 kE w (.slice (some ⟨b,0,none⟩) n cap) xs S) (hn:n=xs.length) (hlen:xs.length≤16777216) :
    Calls Tryz.prog 71 #[.slice (some ⟨b,0,none⟩) n cap,.int .i64 (n:Nat),.func (.func g) #[] cp] w fun e w'=>e=.returned (.tuple #[])∧Rep.kH 29 kE w' (.slice (some ⟨b,0,none⟩) n cap) (Srt.stable key xs) S∧Touch S w w':=by
 have HCL:=yD hcl
 have HCG:=yD hg
 have HO0:=yD h
 have HN0:=yD hn
 have HSB:Hid (Srt.stable key xs=Srt.passes key n (n + 1) 20 (Srt.blocks key n (n + 1) 0 xs)):=yD (by rw [hn];rfl)
 have hnB:n≤16777216:=fV
 clear h hcl hlen hn hg
 have hnI:(n:Int)≤16777216:=fV
 have hn0:=Int.natCast_nonneg n
 go_enter Tryz.func71,Tryz.ntmps71
 go_wp2
 go_loopw [7,8] (fun i j wr=>∃ (p f:Nat) (cu:List kD),i=.int .i64 p∧j=.int .i64 ((p:Int) + 20)∧p≤n∧Hid (n < f + p)∧Hid (Srt.blocks key n f p cu=Srt.blocks key n (n + 1) 0 xs)∧Hid (cu.length=n)∧Hid (Rep.kH 29 kE wr (.slice (some ⟨b,0,none⟩) n cap) cu S)∧Hid (Touch S w wr)) (fun i _ _=>n - (intOf i).toNat)
 case atStart=>exact ⟨0,n + 1,xs,rfl,rfl,Nat.zero_le _,yD fV,yD rfl,yD HN0.out.symm,HO0,yD (Touch.refl _ _)⟩
 obtain ⟨p,f,cu,rfl,rfl,hpn,HFU,HB,HL,HO,HT⟩:=hrel
 have hp0:=Int.natCast_nonneg p
 by_cases hlt:p + 20≤n
 · have hltI:(p:Int) + 20≤n:=fV
   obtain ⟨f',hf',hbn⟩:=blocks_next (key:=key) (cu:=cu) hlt HFU.out
   have HF':=yD hf'
   obtain ⟨q,hq⟩:∃ q,p + 20=q:=⟨_,rfl⟩
   have hqI:(p:Int) + 20=(q:Int):=fV
   rw [hq] at hbn
   have HBN:=yD (hbn.symm.trans HB.out);clear hbn hf'
   have hwq:IntKind.i64.wrap (q:Int)=q:=IntWalk.i64_in _ fV
   go_wp2_with fail
   refine (kBx (n:=n) (b:=b) key HCG.out (jE HCL.out HT.out) HO.out HL.out.symm dW (a:=p) (z:=q) fV dW).mono ?_
   rintro e w2 ⟨rfl,O2,T2⟩
   have HO2:=yD O2;have HT2:=yD (HT.out.trans T2);clear O2 T2
   have HL2:Hid ((Srt.yf key p q cu).length=n):=yD (by rw [Srt.yF];exact HL.out)
   go_wp2
   go_roundw
   case rel=>exact ⟨q,f',_,rfl,by first | rfl|(go_num),by omega,yD (by have:=HF'.out;omega),HBN,HL2,HO2,HT2⟩
   simp [intOf];omega
 have hltI:¬ (p:Int) + 20≤n:=fV
 have HBN:=yD (HB.out.symm.trans (blocks_end (key:=key) (cu:=cu) hlt hpn HFU.out))
 go_wp2_with fail
 refine (kBx (n:=n) (b:=b) key HCG.out (jE HCL.out HT.out) HO.out HL.out.symm dW (a:=p) (z:=n) hpn dW).mono ?_
 rintro e w2 ⟨rfl,O2,T2⟩
 have HL2:Hid ((Srt.blocks key n (n + 1) 0 xs).length=n):=yD (by rw [Srt.ym];exact HN0.out.symm)
 have HO2:=yD (O2.cast HBN.out.symm);have HT2:=yD (HT.out.trans T2);clear O2 T2
 generalize Srt.blocks key n (n + 1) 0 xs=B at *
 clear hlt hltI HBN HO HT HL HB HFU
 go_wp2
 go_loopw [6,7,8] (fun i _ _ wr=>∃ (s f:Nat) (cu:List kD),i=.int .i64 s∧20≤s∧s≤33554432∧Hid (n < f + s)∧Hid (Srt.passes key n f s cu=Srt.passes key n (n + 1) 20 B)∧Hid (cu.length=n)∧Hid (Rep.kH 29 kE wr (.slice (some ⟨b,0,none⟩) n cap) cu S)∧Hid (Touch S w wr)) (fun i _ _ _=>n - (intOf i).toNat)
 case atStart=>exact ⟨20,n + 1,B,rfl,Nat.le_refl _,by omega,yD fV,yD rfl,HL2,HO2,HT2⟩
 obtain ⟨s,f,cu,rfl,hs20,hsB,HFU,HB,HL,HO,HT⟩:=hrel
 have hs0:(20:Int)≤s:=fV
 by_cases hlt:s < n
 · have hltI:(s:Int) < n:=fV
   obtain ⟨f',hf',hbn⟩:=passes_next (key:=key) (cu:=cu) fV hlt HFU.out
   have HF':=yD hf';have HPN:=yD (hbn.symm.trans HB.out);clear hf' hbn
   obtain ⟨s2,hs2⟩:∃ s2,2 * s=s2:=⟨_,rfl⟩
   have hs2I:2 * (s:Int)=(s2:Int):=fV
   have hs2J:(s:Int) * 2=(s2:Int):=fV
   have hws2:IntKind.i64.wrap (s2:Int)=s2:=IntWalk.i64_in _ fV
   have hs20':=Int.natCast_nonneg s2
   go_wp2
   go_loopw [7,8] (fun i j wr=>∃ (p f2:Nat) (cv:List kD),i=.int .i64 p∧j=.int .i64 ((p:Int) + (s2:Int))∧p≤n∧Hid (n < f2 + p)∧Hid (Srt.pass key n s f2 p cv=Srt.pass key n s (n + 1) 0 cu)∧Hid (cv.length=n)∧Hid (Rep.kH 29 kE wr (.slice (some ⟨b,0,none⟩) n cap) cv S)∧Hid (Touch S w wr)) (fun i _ _=>n - (intOf i).toNat)
   case atStart=>exact ⟨0,n + 1,cu,rfl,by first | rfl|(simp;done) | go_num,Nat.zero_le _,yD fV,yD rfl,HL,HO,HT⟩
   obtain ⟨p,f2,cv,rfl,rfl,hpn,HFU2,HB2,HL2,HO2,HT2⟩:=hrel
   have hp0:=Int.natCast_nonneg p
   obtain ⟨ps,hps⟩:∃ ps,p + s=ps:=⟨_,rfl⟩
   have hpsI:(p:Int) + (s:Int)=(ps:Int):=fV
   have hwps:IntKind.i64.wrap (ps:Int)=ps:=IntWalk.i64_in _ fV
   obtain ⟨q,hq⟩:∃ q,p + s2=q:=⟨_,rfl⟩
   have hqI:(p:Int) + (s2:Int)=(q:Int):=fV
   have hwq:IntKind.i64.wrap (q:Int)=q:=IntWalk.i64_in _ fV
   by_cases hl2:p + 2 * s≤n
   · have hqn:(q:Int)≤n:=fV
     obtain ⟨f3,hf3,hbn⟩:=pass_next (key:=key) (cu:=cv) (by omega:0 < s) hl2 HFU2.out
     rw [hs2,hq,hps] at hbn
     have HF3:=yD hf3;have HPN2:=yD (hbn.symm.trans HB2.out);clear hf3 hbn
     go_wp2_with fail
     refine (kDj (n:=n) (b:=b) key HCG.out s2 (jE HCL.out HT2.out) HO2.out HL2.out.symm dV (a:=p) (m:=ps) (z:=q) fV fV dV fV).mono ?_
     rintro e w2 ⟨rfl,O2,T2⟩
     have HO3:=yD O2;have HT3:=yD (HT2.out.trans T2);clear O2 T2
     have HL3:Hid ((Srt.symm key s2 p ps q cv).length=n):=yD (by rw [Srt.jO];exact HL2.out)
     go_wp2
     go_roundw
     case rel=>exact ⟨q,f3,_,rfl,by first | rfl|(go_num),by omega,yD (by have:=HF3.out;omega),HPN2,HL3,HO3,HT3⟩
     simp [intOf];omega
   have hqn:¬ (q:Int)≤n:=fV
   by_cases hm:p + s < n
   · have hmI:(ps:Int) < n:=fV
     have HPE:=yD ((pass_mid (key:=key) (cu:=cv) hl2 hm HFU2.out).symm.trans HB2.out)
     rw [hps] at HPE
     go_wp2_with fail
     refine (kDj (n:=n) (b:=b) key HCG.out (n - p) (jE HCL.out HT2.out) HO2.out HL2.out.symm dV (a:=p) (m:=ps) (z:=n) fV fV dV fV).mono ?_
     rintro e w2 ⟨rfl,O2,T2⟩
     have HO3:=yD (O2.cast HPE.out);have HT3:=yD (HT2.out.trans T2);clear O2 T2
     have HL3:Hid ((Srt.pass key n s (n + 1) 0 cu).length=n):=yD (by rw [Srt.zF];exact HL.out)
     go_wp2
     go_roundw
     case rel=>exact ⟨s2,f',_,rfl,by omega,by omega,yD (by have:=HF'.out;omega),yD (by rw [← hs2,Nat.mul_comm];exact HPN.out),HL3,HO3,HT3⟩
     simp [intOf];omega
   have hmI:¬ (ps:Int) < n:=fV
   have HPE:=yD ((pass_end (key:=key) (cu:=cv) hl2 hm hpn HFU2.out).symm.trans HB2.out)
   have HO3:=yD (HO2.out.cast HPE.out)
   have HL3:Hid ((Srt.pass key n s (n + 1) 0 cu).length=n):=yD (by rw [Srt.zF];exact HL.out)
   go_wp2
   go_roundw
   case rel=>exact ⟨s2,f',_,rfl,by omega,by omega,yD (by have:=HF'.out;omega),yD (by rw [← hs2,Nat.mul_comm];exact HPN.out),HL3,HO3,HT2⟩
   simp [intOf];omega
 have hltI:¬ (s:Int) < n:=fV
 have HE:=yD ((passes_end (key:=key) (f:=f) (cu:=cu) hlt).symm.trans (HB.out.trans HSB.out.symm))
 go_wp2
 go_end0
 exact ⟨rfl,HO.out.cast HE.out,HT.out⟩
theorem kDc {w:World} {v:Value} {xs:List kD} {S:Nat→Prop} {g:FuncId} {cp:Array Value} (key:kD→Int) (hg:kY Tryz.prog g) (hcl:jZ key g cp S w) (h:Rep.kH 29 kE w v xs S) (hlen:xs.length≤16777216) :
    Calls Tryz.prog 42 #[v,.func (.func g) #[] cp] w fun e w'=>e=.returned (.tuple #[])∧Rep.kH 29 kE w' v (Srt.stable key xs) S∧Touch S w w':=by
 rcases Nat.eq_zero_or_pos xs.length with h0 | h0
 · obtain ⟨a,cap,rfl⟩:=h.zG
   obtain rfl:xs=[]:=List.eq_nil_of_length_eq_zero h0
   have hst:Srt.stable key ([]:List kD)=[]:=List.eq_nil_of_length_eq_zero (by rw [Srt.kCl];rfl)
   have HO:=yD (h.cast hst.symm)
   have HNN:=yD (kDl (w:=w) (v:=.slice a 0 cap) (g:=g) (cp:=cp))
   clear h hcl hg hst
   simp only [List.length_nil] at *
   go_enter Tryz.func42,Tryz.ntmps42
   go_wp2_with fail
   refine HNN.out.mono ?_
   rintro e w2 ⟨rfl,hw2⟩
   obtain rfl:=hw2.symm
   go_wp2
   go_end0
   exact ⟨rfl,HO.out,Touch.refl _ _⟩
 obtain ⟨b,cap,rfl,_⟩:=Rep.kAn h h0
 have HC:=yD (kGh key hg hcl h rfl hlen)
 clear h hcl hg hlen h0
 go_enter Tryz.func42,Tryz.ntmps42
 go_wp2_with fail
 refine HC.out.mono ?_
 rintro e w2 ⟨rfl,O2,T2⟩
 have HO2:=yD O2;have HT2:=yD T2;clear O2 T2
 go_wp2
 go_end0
 exact ⟨rfl,HO2.out,HT2.out⟩
end Go.Proofs.YthpgoddjglnoiaaGreatDoor
