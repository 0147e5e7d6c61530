/- A part of the proof of the statement in the last file of this claim: texts on the language of the program and on its functions. No condition. -/
import Derived.Test.YtdilaemengjipaaGreatDoorCA26
import Derived.Test.YtdilaemengjipaaGreatDoorCA20
import Derived.Test.YtdilaemengjipaaGreatDoorCA1
set_option linter.unusedVariables false
set_option linter.unusedSimpArgs false
set_option linter.unusedSectionVars false
open Option renaming some->YH,none->YI
open Bool renaming true->YJ,false->YK
open Decidable renaming decide->YL
namespace Go.Proofs.YtdilaemengjipaaGreatDoor
open List renaming getElem?_eq_some_iff->VT
open Option renaming bind_some->VS
set_option maxRecDepth 10000
open Go.RowKit
theorem yb{α:Type}{body:Int->Option (Int⊕(Unit⊕Bool))}{xs:List α}(h1:∀(i:Nat) x,xs[i]?=YH x->body (i:Int)=YH (.inl (aI ((i:Int)+1))))(h2:body (xs.length:Int)=YH (.inr (.inl ())))(hl:xs.length<=1048576):aD body NN 0=YH (.inl ()):=by
 exact my (body:=body) (λi:Nat=>(i:Int)) (n:=xs.length) (o:=.inl ()) (λi hi=>by rw[h1 i _ (List.getElem?_eq_getElem hi),bE hi X9]) h2 NN Yc
theorem vw{α:Type}[DecidableEq α]{F:List α->List α->Option Bool}{B:List α->List α->Int->Option (Int⊕(Unit⊕Bool))}
 (hF:∀a b,F a b=cond (!decide ((a.length:Int)=(b.length:Int))) (YH YK) ((aD (B a b) NN 0).bind (bk (λ_=>YH YJ) (λr=>YH r))))
 (hB:∀a b s0,B a b s0=cond (YL (s0<(a.length:Int))) ((aB a s0).bind λy1=>(aB b s0).bind λy2=>cond (!decide (y1=y2)) (YH (.inr (.inr YK))) (YH (.inl (aI (s0+1))))) (YH (.inr (.inl ())))) {l:List α} (hl:l.length<=1048576):F l l=YH true:=by
 have e:aD (B l l) NN 0=YH (.inl ()):=by
  refine yb (xs:=l) (λi x hx=>?_) ?_ hl
  ·have bU:=(VT.1 hx).1
   have hg:aB l (i:Int)=YH x:=by rw[aS];exact hx
   rw[hB,X1 (show(i:Int)<l.length by omega),hg]
   simp
  ·rw[hB];simp
 rw[hF,e];simp[bk]
theorem Na{l:List av}(hl:l.length<=1048576):fG l l=YH true:=vw (F:=fG) (B:=kV) (λ_ _=>rfl) (λ_ _ _=>rfl) hl
theorem Zan{l:List aq}(hl:l.length<=1048576):fM l l=YH true:=vw (F:=fM) (B:=jw) (λ_ _=>rfl) (λ_ _ _=>rfl) hl
theorem Zao{l:List bK}(hl:l.length<=1048576):iy l l=YH true:=vw (F:=iy) (B:=mc) (λ_ _=>rfl) (λ_ _ _=>rfl) hl
theorem Zas{l:List bq}(hl:l.length<=1048576):gO l l=YH true:=vw (F:=gO) (B:=kU) (λ_ _=>rfl) (λ_ _ _=>rfl) hl
theorem Gs{l:List Int}(hl:l.length<=1048576):eY l l=YH true:=vw (F:=eY) (B:=gZ) (λ_ _=>rfl) (λ_ _ _=>rfl) hl
theorem Zaq{o:az}(h:o.aG.length<=1048576):lH o o=YH true:=by
 unfold lH;simp only[decide_true,X5,Na h,VS]
theorem Zat{w:ax}(h:qp w):lC w w=YH true:=by
 unfold lC;have e:aD (jc w w) NN 0=YH (.inl ()):=by
  refine yb (xs:=w.ae) (λi x hx=>?_) ?_ h.ae
  ·have bU:=(VT.1 hx).1
   have hg:aB w.ae (i:Int)=YH x:=by rw[aS];exact hx
   unfold jc;rw[X1 (show(i:Int)<w.ae.length by omega),hg]
   simp only[VS,Zaq (h.aG x (List.mem_of_getElem? hx)),X5,Bool.not_true,X6]
  ·unfold jc;simp
 rw[e];simp only[decide_true,Bool.not_true,X6,VS,bk,Zao h.eO.aA,Gs h.eO.off,Zan h.ar,Na h.ah,Zas h.aH,Gs h.skip,X5]
end Go.Proofs.YtdilaemengjipaaGreatDoor
