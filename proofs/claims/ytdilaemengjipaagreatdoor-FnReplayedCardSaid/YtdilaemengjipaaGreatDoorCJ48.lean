/- A part of the proof of the statement in the last file of this claim: texts on the language of the program and on its functions. No condition. -/
import Derived.Test.YtdilaemengjipaaGreatDoorCJ42
import Derived.Test.YtdilaemengjipaaGreatDoorCJ47
import Derived.Test.YtdilaemengjipaaGreatDoorCJ1
set_option linter.unusedVariables false
set_option linter.unusedSimpArgs false
set_option linter.unusedSectionVars false
open Option renaming some->YW,none->YX
open Bool renaming true->YY,false->YZ
open Decidable renaming decide->Y0
namespace Go.Proofs.YtdilaemengjipaaGreatDoor
open Option renaming bind_some->VT
open List renaming length_take->Wg,mem_of_mem_take->Wt,take_of_length_le->Xw,take_take->XE,length_drop->XX
set_option maxRecDepth 10000
open Go.RowKit
theorem replayed(code:List Y6)(hb:∀x∈code,0<=x.v/\x.v<=255):nr code=YW true:=by
 unfold nr ri;rw[VT]
 by_cases yj:4096<(code.length:Int)
 ·rw[Ya yj];rfl
 rw[Yg yj,Yk];obtain⟨⟨o,l⟩,e,⟨ho,hj⟩,hl,ha⟩:=vu (code:=code) Yn hb;simp only at ho hj hl ha
 obtain⟨x,n,hP⟩:=Tz ho hj hl ha;obtain⟨v,hv,v0,v1⟩:=Zem hb;have hle:=hP.le;have Bc:(x.aD.length:Int)=(n:Int):=by rw[hP.jr,Wg];omega
 have EO:x.aD.length<=150:=by have:=hP.few;omega
 have hF:=AL EO hP.A9;have hR:=J3 EO hP.A9;have hAg:cL o x.aD=YW (x,(n:Int)):=by
  have h1:=uJ (x:=o) (l:=x.aD) ho Yn λa hm=>ha a (by rw[hP.jr]at hm;exact Wt hm)
  have h2:=(DE ho ha hj).2;rw[hP.res]at h2
  rw[h1,h2]
 have hA:jx x.aD x.aD=YW true:=K7 Yn λa hm=>⟨_,(hP.A9 a hm).fs⟩
 have hpn:fU l (n:Int)=YW x.aD:=by rw[hP.jr];exact Du hle
 have wn:aM ((n:Int)+1)=((n+1:Nat):Int):=by rw[aR Yn];omega
 obtain⟨k,hk,hkn⟩:∃k:Nat,Int.tmod v (aM ((n:Int)+1))=(k:Int)/\k<=n:=by
  rw[wn,Int.tmod_eq_emod_of_nonneg v0];have h1:=Int.emod_nonneg v (show(((n+1:Nat):Int))≠0 by omega)
  have h2:=Int.emod_lt_of_pos v (show(0:Int)<((n+1:Nat):Int)by omega)
  exact⟨(v % ((n+1:Nat):Int)).toNat,Yn,Yn⟩
 have hdz:cr (Y0 (aM ((n:Int)+1)≠0))=YW ():=ku (Ya (by rw[wn];omega))
 have hpk:fU l (k:Int)=YW (l.take k):=Du Yn;have hrn:(fH o (l.take 150)).2=n:=by rw[hP.res]
 have ht:l.take 150=l:=Xw Yn;rw[ht]at hrn
 have Ed:fH o l=(x,n):=by have:=hP.res;rwa[ht]at this
 have hz:cL o (l.take k)=YW ((fH o (l.take k)).1,(k:Int)):=by
  rw[uJ ho (by rw[Wg];omega) λa hm=>ha a (Wt hm),XE,Nat.min_eq_right Yn,Ak l Yn]
 have hzo:OF (fH o (l.take k)).1:=(yQ (l.take k) ho λa hm=>ha a (Wt hm)).1
 have uU:cL (fH o (l.take k)).1 (cM l (k:Int) (n:Int))=YW (x,((n-k:Nat):Int)):=by
  have es:cM l (k:Int) (n:Int)=(l.take n).drop k:=by
   unfold cM;simp only[Int.toNat_natCast];rw[List.drop_take]
  have ZgW:((l.take n).drop k).take 150=(l.take n).drop k:=Xw (by simp only[XX,Wg];omega)
  have h1:fH o (l.take n)=(x,n):=by
   have:=Aj l (x:=o);rw[hrn,Ed]at this
   exact this
  have h2:=Ub (l:=l.take n) (x:=o) (n:=k) (by rw[h1];exact hkn)
  rw[XE,Nat.min_eq_left hkn,h1]at h2
  rw[es,uJ hzo (by simp only[XX,Wg];omega) λa hm=>ha a (Wt (List.mem_of_mem_drop hm)),ZgW,h2]
 have vA:cr (fJ (k:Int) (n:Int) l.length)=YW ():=ku (by unfold fJ;simp only[decide_eq_true_eq];omega)
 have hwk:(((n-k:Nat)):Int)=aM ((n:Int)-(k:Int)):=by rw[aR Yn];omega
 have hS:=Qx hP.ox;have ZcS:∀(t:List PV) (m:Mem),A8 t m=YW ():=λ_ _=>rfl
 have ZeE:∀(a:Nat) (b:List Nat),oe a b=YW ():=λ_ _=>rfl
 simp only[e,VT,ZcS,hP.run]
 by_cases bX:(n:Int)<(l.length:Int)
 ·rw[Ya bX,Yj]
  have hx:l[n]?=YW (l[n]' Yn):=List.getElem?_eq_getElem _;obtain⟨c,hc,IV⟩:=Qv (x:=o) (l:=l) ho ha (a:=l[n]' Yn) (by rw[hP.res];exact hx)
  rw[hP.res]at hc
  have hg:aB l (n:Int)=YW (l[n]' Yn):=by rw[aP];exact hx
  simp only[ZeE,VT,hg,hc,Yg IV,Yk,hF,hR,hAg,Bc,decide_true,Bool.not_true,hS,hpn,hA,hv,hdz,hk,hpk,hz,vA,uU,hwk,Yj]
 ·rw[Yg bX,Yk]
  simp only[ZeE,VT,Yk,hF,hR,hAg,Bc,decide_true,Bool.not_true,hS,hpn,hA,hv,hdz,hk,hpk,hz,vA,uU,hwk,Yj]
end Go.Proofs.YtdilaemengjipaaGreatDoor
