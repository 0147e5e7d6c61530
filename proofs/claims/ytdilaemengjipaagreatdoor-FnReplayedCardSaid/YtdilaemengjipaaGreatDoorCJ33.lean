/- A part of the proof of the statement in the last file of this claim: texts on the language of the program and on its functions. No condition. -/
import Derived.Test.YtdilaemengjipaaGreatDoorCJ29
import Derived.Test.YtdilaemengjipaaGreatDoorCJ19
import Derived.Test.YtdilaemengjipaaGreatDoorCJ1
set_option linter.unusedVariables false
set_option linter.unusedSimpArgs false
set_option linter.unusedSectionVars false
open Option renaming some->YW,none->YX
open Bool renaming true->YY,false->YZ
open Decidable renaming decide->Y0
namespace Go.Proofs.YtdilaemengjipaaGreatDoor
open List renaming getElem?_eq_some_iff->VU
open Option renaming bind_some->VT
set_option maxRecDepth 10000
open Go.RowKit
theorem vE{α:Type}{body:Int->Option (Int⊕(Unit⊕Bool))}{xs:List α}(h1:∀(i:Nat) x,xs[i]?=YW x->body (i:Int)=YW (.inl (aM ((i:Int)+1))))(h2:body (xs.length:Int)=YW (.inr (.inl ())))(hl:xs.length<=1048576):aE body NN 0=YW (.inl ()):=by
 exact mD (body:=body) (λi:Nat=>(i:Int)) (n:=xs.length) (o:=.inl ()) (λi hi=>by rw[h1 i _ (List.getElem?_eq_getElem hi),bG hi Yn]) h2 NN Ys
theorem vR{α:Type}[DecidableEq α]{F:List α->List α->Option Bool}{B:List α->List α->Int->Option (Int⊕(Unit⊕Bool))}
 (hF:∀a b,F a b=cond (!decide ((a.length:Int)=(b.length:Int))) (YW YZ) ((aE (B a b) NN 0).bind (bh (λ_=>YW YY) (λr=>YW r))))
 (hB:∀a b s0,B a b s0=cond (Y0 (s0<(a.length:Int))) ((aB a s0).bind λy1=>(aB b s0).bind λy2=>cond (!decide (y1=y2)) (YW (.inr (.inr YZ))) (YW (.inl (aM (s0+1))))) (YW (.inr (.inl ())))) {l:List α} (hl:l.length<=1048576):F l l=YW true:=by
 have e:aE (B l l) NN 0=YW (.inl ()):=by
  refine vE (xs:=l) (λi x hx=>?_) ?_ hl
  ·have bX:=(VU.1 hx).1
   have hg:aB l (i:Int)=YW x:=by rw[aP];exact hx
   rw[hB,Ya (show(i:Int)<l.length by omega),hg]
   simp
  ·rw[hB];simp
 rw[hF,e];simp[bh]
theorem N5{l:List av}(hl:l.length<=1048576):fZ l l=YW true:=vR (F:=fZ) (B:=lp) (λ_ _=>rfl) (λ_ _ _=>rfl) hl
theorem Zbq{l:List aq}(hl:l.length<=1048576):gl l l=YW true:=vR (F:=gl) (B:=jN) (λ_ _=>rfl) (λ_ _ _=>rfl) hl
theorem Zbr{l:List bP}(hl:l.length<=1048576):iP l l=YW true:=vR (F:=iP) (B:=mo) (λ_ _=>rfl) (λ_ _ _=>rfl) hl
theorem Zbv{l:List br}(hl:l.length<=1048576):im l l=YW true:=vR (F:=im) (B:=ln) (λ_ _=>rfl) (λ_ _ _=>rfl) hl
theorem GZ{l:List Int}(hl:l.length<=1048576):fk l l=YW true:=vR (F:=fk) (B:=iB) (λ_ _=>rfl) (λ_ _ _=>rfl) hl
theorem Zbt{o:az}(h:o.aK.length<=1048576):lV o o=YW true:=by
 unfold lV;simp only[decide_true,Yj,N5 h,VT]
theorem Zbw{w:ax}(h:rF w):lQ w w=YW true:=by
 unfold lQ;have e:aE (jv w w) NN 0=YW (.inl ()):=by
  refine vE (xs:=w.aj) (λi x hx=>?_) ?_ h.aj
  ·have bX:=(VU.1 hx).1
   have hg:aB w.aj (i:Int)=YW x:=by rw[aP];exact hx
   unfold jv;rw[Ya (show(i:Int)<w.aj.length by omega),hg]
   simp only[VT,Zbt (h.aK x (List.mem_of_getElem? hx)),Yj,Bool.not_true,Yk]
  ·unfold jv;simp
 rw[e];simp only[decide_true,Bool.not_true,Yk,VT,bh,Zbr h.fC.aA,GZ h.fC.off,Zbq h.au,N5 h.ae,Zbv h.aN,GZ h.skip,Yj]
end Go.Proofs.YtdilaemengjipaaGreatDoor
