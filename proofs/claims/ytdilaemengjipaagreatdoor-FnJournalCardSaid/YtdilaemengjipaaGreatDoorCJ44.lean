/- A part of the proof of the statement in the last file of this claim: texts on the language of the program and on its functions. No condition. -/
import Derived.Test.YtdilaemengjipaaGreatDoorCJ42
import Derived.Test.YtdilaemengjipaaGreatDoorCJ43
import Derived.Test.YtdilaemengjipaaGreatDoorCJ1
set_option linter.unusedVariables false
set_option linter.unusedSimpArgs false
set_option linter.unusedSectionVars false
open Option renaming some->YW,none->YX
open Bool renaming true->YY,false->YZ
open Decidable renaming decide->Y0
namespace Go.Proofs.YtdilaemengjipaaGreatDoor
open List renaming length_take->Wg
set_option maxRecDepth 10000
open Go.RowKit
theorem journal10(code:List Y6)(hb:∀x∈code,0<=x.v/\x.v<=255):ot code=YW true:=by
 unfold ot ri;rw[Option.bind_some]
 by_cases yj:4096<(code.length:Int)
 ·rw[Ya yj];rfl
 rw[Yg yj,Yk];obtain⟨⟨o,l⟩,e,⟨ho,hj⟩,hl,ha⟩:=vu (code:=code) Yn hb;simp only at ho hj hl ha
 obtain⟨x,n,hP⟩:=Tz ho hj hl ha;obtain⟨v,hv,v0,v1⟩:=Zem hb;have hle:=hP.le;have Bc:x.aD.length=n:=by rw[hP.jr,Wg];omega
 have EO:x.aD.length<=150:=by have:=hP.few;omega
 have hF:=AL EO hP.A9;have hR:=J3 EO hP.A9;have Lx:=yz hP.A9;have hA:jx x.aD x.aD=YW true:=K7 Yn λa hm=>⟨_,(hP.A9 a hm).fs⟩
 obtain⟨k,hk,hkn⟩:∃k:Nat,IntKind.i64.wrap (Int.tdiv (aM (((cE (x.aD.flatMap ki)).size:Int)*v)) 256)=(k:Int)/\k<=(x.aD.flatMap ki).length:=by
  rw[bD];generalize (x.aD.flatMap ki).length=m at *
  have hm:m<=200000:=Yn;have h1:(m:Int)*v<=(m:Int)*255:=Int.mul_le_mul_of_nonneg_left v1 Yn;have h0:0<=(m:Int)*v:=Int.mul_nonneg Yn v0;generalize (m:Int)*v=q at *
  rw[aR Yn,Int.tdiv_eq_ediv_of_nonneg h0];refine⟨(q / 256).toNat,?_,Yn⟩;show aM _=_;rw[aR Yn];omega
 have vA:cr (fJ 0 (k:Int) ((cE (x.aD.flatMap ki)).size:Int))=YW ():=ku (by rw[bD];unfold fJ;simp only[decide_eq_true_eq];omega)
 have sT:He (cE (x.aD.flatMap ki)) 0 (k:Int)=cE ((x.aD.flatMap ki).take k):=by
  have h:=Of (a:=[]) (b:=(x.aD.flatMap ki).take k) (c:=(x.aD.flatMap ki).drop k) (i:=0) (j:=k) rfl (by rw[Wg];omega)
  rw[List.nil_append,List.take_append_drop]at h
  exact h
 obtain⟨j,Zhf,hC⟩:=TT EO hP.A9 k;have hlen:(x.aD.take j).length=j:=by rw[Wg];omega
 have hpj:fU x.aD (j:Int)=YW (x.aD.take j):=Du Zhf;have hA2:jx (x.aD.take j) (x.aD.take j)=YW true:=K7 Yn λa hm=>⟨_,(hP.A9 a (List.mem_of_mem_take hm)).fs⟩
 have ZcS:∀(t:List PV) (m:Mem),A8 t m=YW ():=λ_ _=>rfl
 simp only[e,Option.bind_some,ZcS,hP.run,hP.spec,decide_true,Bool.not_true,Yk,hF,hR,hA,Yg (show ¬(x.aD.length:Int)<(n:Int)by omega),hv,hk,vA,sT,hC,hlen,Ya (show(j:Int)<=(x.aD.length:Int)by omega),Yj,hpj,hA2]
end Go.Proofs.YtdilaemengjipaaGreatDoor
