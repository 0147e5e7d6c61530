/- A part of the proof of the statement in the last file of this claim: texts on the language of the program and on its functions. No condition. -/
import Derived.Test.YtbalgkakkoocjaaGreatCFnTwice4
import Derived.Test.YtbalgkakkoocjaaGreatCFnTwice1
set_option linter.unusedVariables false
set_option linter.unusedSimpArgs false
set_option linter.unusedSectionVars false
namespace Go.Proofs.YtbalgkakkoocjaaGreat
open Bool renaming and_eq_true→VZ,not_eq_true'→Wa
open List renaming length_cons→VX,foldl_cons→WI,getD_eq_getElem?_getD→Yv,take_length→Xo,all_eq_true→V5,length_map→Wg,length_nil→VY
set_option maxRecDepth 10000
open Go.RowKit
set_option maxHeartbeats 16000000
variable {KA:PV→Mem→Prop}{KR:PV→Prop}{P:Program}{T:TypeId}{es:List (List PV)}{m:Mem}{n n0:Nat}{p:Prop}{t t' zc:List PV}{α:Type}
def mQ(w:av)(o:az):Option ByteArray:=
 cond (decide (o.state=2))
 ((aC o.aE o.aJ).bind fun y1=>
 (aC w.aa.ay y1.bx).bind fun y2=>
 some y2.aV)
 (some o.place)
instance (w:av)(o:az):CT Tryz.prog (mQ w o):=⟨279,[.ag (fK w),.ag (bc o)],[],fun r=>vs r,fun r=>[],fun H=>by replace H:=H0 H;unfold mQ at H;exact aA Tryz.func279 rfl Tryz.ntmps279 Tryz.results279 fun Q hQ cR=>dU⟩
def eQ(n:aj)(x:az):Option ByteArray:=
 cond (decide (x.state=2))
 ((aC x.aE x.aJ).bind fun y1=>
 (aC n.ay y1.bx).bind fun y2=>
 some y2.aV)
 (some x.place)
instance (n:aj)(x:az):CT Tryz.prog (eQ n x):=⟨301,[.ag (bA n),.ag (bc x)],[],fun r=>vs r,fun r=>[],fun H=>by replace H:=H0 H;unfold eQ at H;exact aA Tryz.func301 rfl Tryz.ntmps301 Tryz.results301 fun Q hQ cR=>dU⟩
def nS(l:List ByteArray)(p:ByteArray)(s0:Int):Option (Int⊕(Unit⊕Int)):=
 cond (decide (s0<(l.length:Int)))
 ((aC l s0).bind fun y1=>
 cond (decide (y1=p))
 (some (.inr (.inr s0)))
 (some (.inl (aL (s0+1)))))
 (some (.inr (.inl ())))
instance (l:List ByteArray)(p:ByteArray):bm (nS l p):=⟨fun s0=>(.sl (l.map jH)::vs p::(U 3 (vi s0::(U 13 [])))),fun s0=>[]⟩
def cb(l:List ByteArray)(p:ByteArray):Option Int:=
 (aD (nS l p) NN 0).bind (bl (fun o0=>
 some (-1)) (fun r=>some r))
instance (l:List ByteArray)(p:ByteArray):CT Tryz.prog (cb l p):=⟨285,[.sl (l.map jH),vs p],[],fun r=>vi r,fun r=>[],fun H=>by replace H:=H0 H;unfold cb at H;exact aA Tryz.func285 rfl Tryz.ntmps285 Tryz.results285 fun Q hQ cR=>dU⟩
structure Ln where
 o:Int
 k:Int
 a:Int
 t:Int
variable {x:Ln}
instance:dT Ln where
 cells x:=[I x.o,I x.k,I x.a,I x.t]
 k:=4
 len _:=rfl
 pos:=by decide
 one:=by simp[Value.oneCell',I]
instance:Inhabited Ln:=⟨⟨0,0,0,0⟩⟩
def tU(n l h:Int):Bool:=decide (l≤n)&&decide (n≤h)
def np(o k a t:Int):Bool:=tU o 1 9999&&tU k 1 3&&tU a 1 100000&&tU t 0 100000
def ZcM(x y:Ln):Bool:=x.o==y.o&&x.k==y.k&&x.a==y.a&&x.t==y.t
theorem QY{x y:Ln}:ZcM x y=true↔x=y:=by
 cases x;cases y;simp[ZcM,and_assoc]
instance:DecidableEq Ln:=fun _ _=>decidable_of_iff _ QY
def pK(o k:Int)(s:Int)(x:Ln):Int:=if(x.o==o&&x.k==k)=true then wrap64 (s+x.a)else s
def cn(xs:List Ln)(o k:Int):Int:=xs.foldl (pK o k) 0
def ry(xs:List Int)(j:Nat):Bool:=tU (xs.getD j 0) 0 100&&(decide (j=0) ||decide (xs.getD (j-1) 0≤xs.getD j 0))
def mT(xs:List Int):Bool:=yd xs.length (ry xs)&&tU xs.length 1 6
theorem O2{xs:List Int}{i:Nat}{x:Int}(hx:xs[i]?=some x)(h:tU x 0 100=false):ry xs i=false:=by simp[ry,hx,h]
theorem LA{xs:List Int}{i:Nat}{x:Int}(h0:i≤0)(hx:xs[i]?=some x)(h:tU x 0 100=true):ry xs i=true:=by
 obtain rfl:i=0:=by omega
 simp[ry,hx,h]
theorem Lz{xs:List Int}{i:Nat}{x y:Int}(hy:xs[i]?=some y)(hx:xs[i+1]?=some x)(h:x<y):ry xs (i+1)=false:=by
 simp[ry,hx,hy];omega
theorem Sd{xs:List Int}{i:Nat}{x y:Int}(hy:xs[i]?=some y)(hx:xs[i+1]?=some x)(hb:tU x 0 100=true)(h:¬x<y):ry xs (i+1)=true:=by
 simp[ry,hx,hy,hb];omega
theorem ru{n l h:Int}(e:tU n l h=true):l≤n∧n≤h:=by simpa[tU]using e
theorem C2{xs:List Int}(h:mT xs=true):1≤xs.length∧xs.length≤6∧∀(i:Nat) (x:Int),xs[i]?=some x→0≤x∧x≤100:=by
 simp only[mT,VZ]at h
 have h2:=ru h.2
 refine⟨by omega,by omega,fun i x hx=>?_⟩
 have h3:=tD.1 h.1 i (Fa hx)
 simp[ry,hx]at h3
 exact ru h3.1
def Se(c x:Int):Int:=wrap64 ((wrap64 (c*x)).tdiv 100)
def Dj(nX dX bD:Int)(ps:List Int):Bool:=mT ps&&tU nX 0 100000&&tU dX 0 200000&&tU bD 0 200000&&!decide (bD≤dX)
def qy(dX bD:Int)(ps:List Int):Nat:=if(bD-dX-1) / 1440<(ps.length:Int)then((bD-dX-1) / 1440).toNat else ps.length-1
def jS(nX dX bD:Int)(ps:List Int):Int:=if Dj nX dX bD ps then Se nX (ps.getD (qy dX bD ps) 0)else 0
def rW(o k:Int)(s:Int)(x:Ln):Int:=if(x.o==o&&x.k==k)=true then wrap64 (s+1)else s
def ym(xs:List Ln)(o k:Int):Int:=xs.foldl (rW o k) 0
theorem vn(o k:Int):∀(b:List Ln) (c s:Int),(∀x∈b,1≤x.a∧x.a≤100000)→0≤c→c+b.length≤200→c≤s→s≤100000*c→
 0≤b.foldl (rW o k) c∧b.foldl (rW o k) c≤c+b.length∧b.foldl (rW o k) c≤b.foldl (pK o k) s∧b.foldl (pK o k) s≤100000*b.foldl (rW o k) c
 | [],c,s,_,h0,hl,h1,h2=>⟨h0,by simp,h1,h2⟩
 |x::b,c,s,ha,h0,hl,h1,h2=>by
  have hx:=ha x (by simp)
  simp only[VX]at hl
  have e1:wrap64 (c+1)=c+1:=IntWalk.wrap64_in _ ⟨by omega,by omega⟩
  have e2:wrap64 (s+x.a)=s+x.a:=IntWalk.wrap64_in _ ⟨by omega,by omega⟩
  by_cases h:(x.o==o&&x.k==k)=true
  ·have r:=vn o k b (c+1) (s+x.a) (fun y hy=>ha y (by simp[hy])) (by omega) (by omega) (by omega) (by omega)
   simp only[WI,rW,pK,h,if_true,e1,e2]at r⊢
   refine⟨r.1,?_,r.2.2.1,r.2.2.2⟩
   have:=r.2.1
   simp only[VX];omega
  ·have r:=vn o k b c s (fun y hy=>ha y (by simp[hy])) h0 (by omega) h1 h2
   simp only[WI,rW,pK,if_neg h]at r⊢
   refine⟨r.1,?_,r.2.2.1,r.2.2.2⟩
   have:=r.2.1
   simp only[VX];omega
theorem Mm{b:List Ln}(o k:Int)(ha:∀x∈b,1≤x.a∧x.a≤100000)(hl:b.length≤200):0≤ym b o k∧ym b o k≤b.length∧ym b o k≤cn b o k∧cn b o k≤100000*ym b o k:=by
 have r:=vn o k b 0 0 ha (by omega) (by omega) (by omega) (by omega)
 refine⟨r.1,by have:=r.2.1;unfold ym;omega,r.2.2.1,r.2.2.2⟩
/-! ### Zcc -/
def yh(xs:List Ln)(i:Nat)(x:Ln):Bool:=!(np x.o x.k x.a x.t) ||(decide (0<i)&&decide (x.t<(xs.getD (i-1) default).t))
def tM(b:List Ln)(x:Ln):Bool:=
 if x.k=1 then !decide (0<cn b x.o 1)
 else if x.k=2 then !decide (cn b x.o 1<wrap64 (cn b x.o 2+x.a))
 else !decide (0<cn b x.o 3)&&(cn b x.o 2==cn b x.o 1)&&!decide (cn b x.o 1<x.a)
def rH(xs:List Ln)(i:Nat):Bool:=!(yh xs i (xs.getD i default))&&tM (xs.take i) (xs.getD i default)
def dC(xs:List Ln):Bool:=decide (xs.length≤200)&&yd xs.length (rH xs)
theorem AK{xs:List Ln}(h:¬xs.length≤200):dC xs=false:=by simp[dC,h]
theorem AJ{xs:List Ln}{i:Nat}(h:yh xs i x=false):np x.o x.k x.a x.t=true:=by
 simp only[yh,Bool.or_eq_false_iff,Bool.not_eq_false']at h;exact h.1
theorem ZcN{b:List Ln}(hk:x.k=1):tM b x=!decide (0<cn b x.o 1):=by simp[tM,hk]
theorem ZcO{b:List Ln}(hk:x.k=2):tM b x=!decide (cn b x.o 1<wrap64 (cn b x.o 2+x.a)):=by simp[tM,hk]
theorem ZaU{b:List Ln}(hk:x.k=3):tM b x=(!decide (0<cn b x.o 3)&&(cn b x.o 2==cn b x.o 1)&&!decide (cn b x.o 1<x.a)):=by simp[tM,hk]
theorem zr(h:np x.o x.k x.a x.t=true):1≤x.a∧x.a≤100000:=by
 simp only[np,VZ]at h
 exact ru h.1.2
theorem zg{xs:List Ln}{i:Nat}(h:yd i (rH xs)=true):∀x∈xs.take i,1≤x.a∧x.a≤100000:=by
 intro x hx
 obtain⟨j,hj⟩:=List.getElem?_of_mem hx
 rw[List.getElem?_take]at hj
 split at hj
 ·rename_i bF
  have h1:=tD.1 h j bF
  simp only[rH,Yv,hj,Option.getD_some,VZ,Wa]at h1
  exact zr (AJ h1.1)
 ·cases hj
theorem Ml{xs:List Ln}{i:Nat}(o k:Int)(h:yd i (rH xs)=true)(hl:i≤200):decide (0<ym (xs.take i) o k)=decide (0<cn (xs.take i) o k):=by
 have r:=Mm o k (zg h) (by rw[List.length_take];omega)
 rw[decide_eq_decide]
 omega
theorem UM(h:np x.o x.k x.a x.t=true):x.k=1∨x.k=2∨x.k=3:=by
 simp only[np,VZ]at h
 have:=ru h.1.1.2
 omega
/-! ### Kk is Zfr,Zem,ZcC,Zfv -/
def uc(xs:List Ln)(o:Int):Int:=if dC xs then wrap64 (cn xs o 1-cn xs o 2)else 0
def Qv(s:Int)(x:Ln):Int:=if(x.k==2)=true then wrap64 (s+x.a)else if(x.k==3)=true then wrap64 (s-x.a)else s
def ZaM(xs:List Ln):Int:=xs.foldl Qv 0
def Zag(xs:List Ln):Int:=if dC xs then ZaM xs else 0
def ZdJ(xs:List Ln)(x:Ln):List Ln×Int:=if 200≤xs.length then(xs,5)else if dC (xs++[x])=true then(xs++[x],0)else(xs,1)
def Vk(xs:List Ln)(o du en:Int)(ps:List Int)(t:Int):List Ln×Int:=
 if dC xs=false then(xs,1)else if mT ps=false then(xs,1)else if tU o 1 9999=false then(xs,1)else if tU t 0 100000=false then(xs,1)
 else if(cn xs o 1==0)=true then(xs,3)else if decide (0<uc xs o)=true then(xs,3)else if decide (0<cn xs o 3)=true then(xs,2)
 else if(jS (cn xs o 1) du en ps==0)=true then(xs,4)else ZdJ xs ⟨o,3,jS (cn xs o 1) du en ps,t⟩
theorem Qz{xs:List Ln}(o k:Int)(h:dC xs=true):decide (0<ym xs o k)=decide (0<cn xs o k):=by
 simp only[dC,VZ,decide_eq_true_eq]at h
 have:=Ml (xs:=xs) (i:=xs.length) o k h.2 h.1
 rwa[Xo]at this
theorem JM{du en:Int}{ps:List Int}(h:mT ps=true)(he:¬en≤du):qy du en ps<ps.length:=by
 have:=(C2 h).1
 unfold qy
 split<;>omega
def jZ(l:List ao):Option (List ao):=
 (cL (bo ((([]:List ao):List ao).length+(l:List ao).length) 32)).bind fun _=>
 some ((([]:List ao):List ao)++l)
instance (l:List ao):CT Tryz.prog (jZ l):=⟨218,[.sl (l.map aB)],[],fun r=>.ms 0,fun r=>[some ⟨.of 177,4,r.map aB⟩],fun H=>by replace H:=H0 H;unfold jZ at H;exact aA Tryz.func218 rfl Tryz.ntmps218 Tryz.results218 fun Q hQ cR=>dU⟩
set_option maxRecDepth 4000
theorem TP{a b c d e f g h i j k l a12:Option MB}(r0 r1 r2 r3 r4 r5 r6 r7 r8 r9 mJ nD oE:Option Nat)(hl:mi n0 0 [r0,r1,r2,r3,r4,r5,r6,r7,r8,r9,mJ,nD,oE] [a,b,c,d,e,f,g,h,i,j,k,l,a12]=true)(hT:oI (cT [r0,r1,r2,r3,r4,r5,r6,r7,r8,r9,mJ,nD,oE]) m [a,b,c,d,e,f,g,h,i,j,k,l,a12] t t')(hM:dV [r0,r1,r2,r3,r4,r5,r6,r7,r8,r9,mJ,nD,oE] m [a,b,c,d,e,f,g,h,i,j,k,l,a12] [r0,r1,r2,r3,r4,r5,r6,r7,r8,r9,mJ,nD,oE] [a,b,c,d,e,f,g,h,i,j,k,l,a12])(hi:pg [r0,r1,r2,r3,r4,r5,r6,r7,r8,r9,mJ,nD,oE]=true):jy n0 t m t' [a,b,c,d,e,f,g,h,i,j,k,l,a12]:=jz hT hM hi hl
theorem TQ{a b c d e f g h i j k l a12 pb:Option MB}(r0 r1 r2 r3 r4 r5 r6 r7 r8 r9 mJ nD oE pq:Option Nat)(hl:mi n0 0 [r0,r1,r2,r3,r4,r5,r6,r7,r8,r9,mJ,nD,oE,pq] [a,b,c,d,e,f,g,h,i,j,k,l,a12,pb]=true)(hT:oI (cT [r0,r1,r2,r3,r4,r5,r6,r7,r8,r9,mJ,nD,oE,pq]) m [a,b,c,d,e,f,g,h,i,j,k,l,a12,pb] t t')(hM:dV [r0,r1,r2,r3,r4,r5,r6,r7,r8,r9,mJ,nD,oE,pq] m [a,b,c,d,e,f,g,h,i,j,k,l,a12,pb] [r0,r1,r2,r3,r4,r5,r6,r7,r8,r9,mJ,nD,oE,pq] [a,b,c,d,e,f,g,h,i,j,k,l,a12,pb])(hi:pg [r0,r1,r2,r3,r4,r5,r6,r7,r8,r9,mJ,nD,oE,pq]=true):jy n0 t m t' [a,b,c,d,e,f,g,h,i,j,k,l,a12,pb]:=jz hT hM hi hl
theorem TR{a b c d e f g h i j k l a12 pb qf:Option MB}(r0 r1 r2 r3 r4 r5 r6 r7 r8 r9 mJ nD oE pq qx:Option Nat)(hl:mi n0 0 [r0,r1,r2,r3,r4,r5,r6,r7,r8,r9,mJ,nD,oE,pq,qx] [a,b,c,d,e,f,g,h,i,j,k,l,a12,pb,qf]=true)(hT:oI (cT [r0,r1,r2,r3,r4,r5,r6,r7,r8,r9,mJ,nD,oE,pq,qx]) m [a,b,c,d,e,f,g,h,i,j,k,l,a12,pb,qf] t t')(hM:dV [r0,r1,r2,r3,r4,r5,r6,r7,r8,r9,mJ,nD,oE,pq,qx] m [a,b,c,d,e,f,g,h,i,j,k,l,a12,pb,qf] [r0,r1,r2,r3,r4,r5,r6,r7,r8,r9,mJ,nD,oE,pq,qx] [a,b,c,d,e,f,g,h,i,j,k,l,a12,pb,qf])(hi:pg [r0,r1,r2,r3,r4,r5,r6,r7,r8,r9,mJ,nD,oE,pq,qx]=true):jy n0 t m t' [a,b,c,d,e,f,g,h,i,j,k,l,a12,pb,qf]:=jz hT hM hi hl
theorem TS{a b c d e f g h i j k l a12 pb qf rk:Option MB}(r0 r1 r2 r3 r4 r5 r6 r7 r8 r9 mJ nD oE pq qx rz:Option Nat)(hl:mi n0 0 [r0,r1,r2,r3,r4,r5,r6,r7,r8,r9,mJ,nD,oE,pq,qx,rz] [a,b,c,d,e,f,g,h,i,j,k,l,a12,pb,qf,rk]=true)(hT:oI (cT [r0,r1,r2,r3,r4,r5,r6,r7,r8,r9,mJ,nD,oE,pq,qx,rz]) m [a,b,c,d,e,f,g,h,i,j,k,l,a12,pb,qf,rk] t t')(hM:dV [r0,r1,r2,r3,r4,r5,r6,r7,r8,r9,mJ,nD,oE,pq,qx,rz] m [a,b,c,d,e,f,g,h,i,j,k,l,a12,pb,qf,rk] [r0,r1,r2,r3,r4,r5,r6,r7,r8,r9,mJ,nD,oE,pq,qx,rz] [a,b,c,d,e,f,g,h,i,j,k,l,a12,pb,qf,rk])(hi:pg [r0,r1,r2,r3,r4,r5,r6,r7,r8,r9,mJ,nD,oE,pq,qx,rz]=true):jy n0 t m t' [a,b,c,d,e,f,g,h,i,j,k,l,a12,pb,qf,rk]:=jz hT hM hi hl
theorem TT{a b c d e f g h i j k l a12 pb qf rk sy:Option MB}(r0 r1 r2 r3 r4 r5 r6 r7 r8 r9 mJ nD oE pq qx rz sM:Option Nat)(hl:mi n0 0 [r0,r1,r2,r3,r4,r5,r6,r7,r8,r9,mJ,nD,oE,pq,qx,rz,sM] [a,b,c,d,e,f,g,h,i,j,k,l,a12,pb,qf,rk,sy]=true)(hT:oI (cT [r0,r1,r2,r3,r4,r5,r6,r7,r8,r9,mJ,nD,oE,pq,qx,rz,sM]) m [a,b,c,d,e,f,g,h,i,j,k,l,a12,pb,qf,rk,sy] t t')(hM:dV [r0,r1,r2,r3,r4,r5,r6,r7,r8,r9,mJ,nD,oE,pq,qx,rz,sM] m [a,b,c,d,e,f,g,h,i,j,k,l,a12,pb,qf,rk,sy] [r0,r1,r2,r3,r4,r5,r6,r7,r8,r9,mJ,nD,oE,pq,qx,rz,sM] [a,b,c,d,e,f,g,h,i,j,k,l,a12,pb,qf,rk,sy])(hi:pg [r0,r1,r2,r3,r4,r5,r6,r7,r8,r9,mJ,nD,oE,pq,qx,rz,sM]=true):jy n0 t m t' [a,b,c,d,e,f,g,h,i,j,k,l,a12,pb,qf,rk,sy]:=jz hT hM hi hl
theorem TU{a b c d e f g h i j k l a12 pb qf rk sy a17:Option MB}(r0 r1 r2 r3 r4 r5 r6 r7 r8 r9 mJ nD oE pq qx rz sM ug:Option Nat)(hl:mi n0 0 [r0,r1,r2,r3,r4,r5,r6,r7,r8,r9,mJ,nD,oE,pq,qx,rz,sM,ug] [a,b,c,d,e,f,g,h,i,j,k,l,a12,pb,qf,rk,sy,a17]=true)(hT:oI (cT [r0,r1,r2,r3,r4,r5,r6,r7,r8,r9,mJ,nD,oE,pq,qx,rz,sM,ug]) m [a,b,c,d,e,f,g,h,i,j,k,l,a12,pb,qf,rk,sy,a17] t t')(hM:dV [r0,r1,r2,r3,r4,r5,r6,r7,r8,r9,mJ,nD,oE,pq,qx,rz,sM,ug] m [a,b,c,d,e,f,g,h,i,j,k,l,a12,pb,qf,rk,sy,a17] [r0,r1,r2,r3,r4,r5,r6,r7,r8,r9,mJ,nD,oE,pq,qx,rz,sM,ug] [a,b,c,d,e,f,g,h,i,j,k,l,a12,pb,qf,rk,sy,a17])(hi:pg [r0,r1,r2,r3,r4,r5,r6,r7,r8,r9,mJ,nD,oE,pq,qx,rz,sM,ug]=true):jy n0 t m t' [a,b,c,d,e,f,g,h,i,j,k,l,a12,pb,qf,rk,sy,a17]:=jz hT hM hi hl
theorem TV{a b c d e f g h i j k l a12 pb qf rk sy a17 vd:Option MB}(r0 r1 r2 r3 r4 r5 r6 r7 r8 r9 mJ nD oE pq qx rz sM ug vM:Option Nat)(hl:mi n0 0 [r0,r1,r2,r3,r4,r5,r6,r7,r8,r9,mJ,nD,oE,pq,qx,rz,sM,ug,vM] [a,b,c,d,e,f,g,h,i,j,k,l,a12,pb,qf,rk,sy,a17,vd]=true)(hT:oI (cT [r0,r1,r2,r3,r4,r5,r6,r7,r8,r9,mJ,nD,oE,pq,qx,rz,sM,ug,vM]) m [a,b,c,d,e,f,g,h,i,j,k,l,a12,pb,qf,rk,sy,a17,vd] t t')(hM:dV [r0,r1,r2,r3,r4,r5,r6,r7,r8,r9,mJ,nD,oE,pq,qx,rz,sM,ug,vM] m [a,b,c,d,e,f,g,h,i,j,k,l,a12,pb,qf,rk,sy,a17,vd] [r0,r1,r2,r3,r4,r5,r6,r7,r8,r9,mJ,nD,oE,pq,qx,rz,sM,ug,vM] [a,b,c,d,e,f,g,h,i,j,k,l,a12,pb,qf,rk,sy,a17,vd])(hi:pg [r0,r1,r2,r3,r4,r5,r6,r7,r8,r9,mJ,nD,oE,pq,qx,rz,sM,ug,vM]=true):jy n0 t m t' [a,b,c,d,e,f,g,h,i,j,k,l,a12,pb,qf,rk,sy,a17,vd]:=jz hT hM hi hl
theorem TW{a b c d e f g h i j k l a12 pb qf rk sy a17 vd x9:Option MB}(r0 r1 r2 r3 r4 r5 r6 r7 r8 r9 mJ nD oE pq qx rz sM ug vM yY:Option Nat)(hl:mi n0 0 [r0,r1,r2,r3,r4,r5,r6,r7,r8,r9,mJ,nD,oE,pq,qx,rz,sM,ug,vM,yY] [a,b,c,d,e,f,g,h,i,j,k,l,a12,pb,qf,rk,sy,a17,vd,x9]=true)(hT:oI (cT [r0,r1,r2,r3,r4,r5,r6,r7,r8,r9,mJ,nD,oE,pq,qx,rz,sM,ug,vM,yY]) m [a,b,c,d,e,f,g,h,i,j,k,l,a12,pb,qf,rk,sy,a17,vd,x9] t t')(hM:dV [r0,r1,r2,r3,r4,r5,r6,r7,r8,r9,mJ,nD,oE,pq,qx,rz,sM,ug,vM,yY] m [a,b,c,d,e,f,g,h,i,j,k,l,a12,pb,qf,rk,sy,a17,vd,x9] [r0,r1,r2,r3,r4,r5,r6,r7,r8,r9,mJ,nD,oE,pq,qx,rz,sM,ug,vM,yY] [a,b,c,d,e,f,g,h,i,j,k,l,a12,pb,qf,rk,sy,a17,vd,x9])(hi:pg [r0,r1,r2,r3,r4,r5,r6,r7,r8,r9,mJ,nD,oE,pq,qx,rz,sM,ug,vM,yY]=true):jy n0 t m t' [a,b,c,d,e,f,g,h,i,j,k,l,a12,pb,qf,rk,sy,a17,vd,x9]:=jz hT hM hi hl
theorem TX{a b c d e f g h i j k l a12 pb qf rk sy a17 vd x9 a20:Option MB}(r0 r1 r2 r3 r4 r5 r6 r7 r8 r9 mJ nD oE pq qx rz sM ug vM yY Di:Option Nat)(hl:mi n0 0 [r0,r1,r2,r3,r4,r5,r6,r7,r8,r9,mJ,nD,oE,pq,qx,rz,sM,ug,vM,yY,Di] [a,b,c,d,e,f,g,h,i,j,k,l,a12,pb,qf,rk,sy,a17,vd,x9,a20]=true)(hT:oI (cT [r0,r1,r2,r3,r4,r5,r6,r7,r8,r9,mJ,nD,oE,pq,qx,rz,sM,ug,vM,yY,Di]) m [a,b,c,d,e,f,g,h,i,j,k,l,a12,pb,qf,rk,sy,a17,vd,x9,a20] t t')(hM:dV [r0,r1,r2,r3,r4,r5,r6,r7,r8,r9,mJ,nD,oE,pq,qx,rz,sM,ug,vM,yY,Di] m [a,b,c,d,e,f,g,h,i,j,k,l,a12,pb,qf,rk,sy,a17,vd,x9,a20] [r0,r1,r2,r3,r4,r5,r6,r7,r8,r9,mJ,nD,oE,pq,qx,rz,sM,ug,vM,yY,Di] [a,b,c,d,e,f,g,h,i,j,k,l,a12,pb,qf,rk,sy,a17,vd,x9,a20])(hi:pg [r0,r1,r2,r3,r4,r5,r6,r7,r8,r9,mJ,nD,oE,pq,qx,rz,sM,ug,vM,yY,Di]=true):jy n0 t m t' [a,b,c,d,e,f,g,h,i,j,k,l,a12,pb,qf,rk,sy,a17,vd,x9,a20]:=jz hT hM hi hl
theorem TY{a b c d e f g h i j k l a12 pb qf rk sy a17 vd x9 a20 a21:Option MB}(r0 r1 r2 r3 r4 r5 r6 r7 r8 r9 mJ nD oE pq qx rz sM ug vM yY Di JK:Option Nat)(hl:mi n0 0 [r0,r1,r2,r3,r4,r5,r6,r7,r8,r9,mJ,nD,oE,pq,qx,rz,sM,ug,vM,yY,Di,JK] [a,b,c,d,e,f,g,h,i,j,k,l,a12,pb,qf,rk,sy,a17,vd,x9,a20,a21]=true)(hT:oI (cT [r0,r1,r2,r3,r4,r5,r6,r7,r8,r9,mJ,nD,oE,pq,qx,rz,sM,ug,vM,yY,Di,JK]) m [a,b,c,d,e,f,g,h,i,j,k,l,a12,pb,qf,rk,sy,a17,vd,x9,a20,a21] t t')(hM:dV [r0,r1,r2,r3,r4,r5,r6,r7,r8,r9,mJ,nD,oE,pq,qx,rz,sM,ug,vM,yY,Di,JK] m [a,b,c,d,e,f,g,h,i,j,k,l,a12,pb,qf,rk,sy,a17,vd,x9,a20,a21] [r0,r1,r2,r3,r4,r5,r6,r7,r8,r9,mJ,nD,oE,pq,qx,rz,sM,ug,vM,yY,Di,JK] [a,b,c,d,e,f,g,h,i,j,k,l,a12,pb,qf,rk,sy,a17,vd,x9,a20,a21])(hi:pg [r0,r1,r2,r3,r4,r5,r6,r7,r8,r9,mJ,nD,oE,pq,qx,rz,sM,ug,vM,yY,Di,JK]=true):jy n0 t m t' [a,b,c,d,e,f,g,h,i,j,k,l,a12,pb,qf,rk,sy,a17,vd,x9,a20,a21]:=jz hT hM hi hl
theorem TZ{a b c d e f g h i j k l a12 pb qf rk sy a17 vd x9 a20 a21 Qf:Option MB}(r0 r1 r2 r3 r4 r5 r6 r7 r8 r9 mJ nD oE pq qx rz sM ug vM yY Di JK Ss:Option Nat)(hl:mi n0 0 [r0,r1,r2,r3,r4,r5,r6,r7,r8,r9,mJ,nD,oE,pq,qx,rz,sM,ug,vM,yY,Di,JK,Ss] [a,b,c,d,e,f,g,h,i,j,k,l,a12,pb,qf,rk,sy,a17,vd,x9,a20,a21,Qf]=true)(hT:oI (cT [r0,r1,r2,r3,r4,r5,r6,r7,r8,r9,mJ,nD,oE,pq,qx,rz,sM,ug,vM,yY,Di,JK,Ss]) m [a,b,c,d,e,f,g,h,i,j,k,l,a12,pb,qf,rk,sy,a17,vd,x9,a20,a21,Qf] t t')(hM:dV [r0,r1,r2,r3,r4,r5,r6,r7,r8,r9,mJ,nD,oE,pq,qx,rz,sM,ug,vM,yY,Di,JK,Ss] m [a,b,c,d,e,f,g,h,i,j,k,l,a12,pb,qf,rk,sy,a17,vd,x9,a20,a21,Qf] [r0,r1,r2,r3,r4,r5,r6,r7,r8,r9,mJ,nD,oE,pq,qx,rz,sM,ug,vM,yY,Di,JK,Ss] [a,b,c,d,e,f,g,h,i,j,k,l,a12,pb,qf,rk,sy,a17,vd,x9,a20,a21,Qf])(hi:pg [r0,r1,r2,r3,r4,r5,r6,r7,r8,r9,mJ,nD,oE,pq,qx,rz,sM,ug,vM,yY,Di,JK,Ss]=true):jy n0 t m t' [a,b,c,d,e,f,g,h,i,j,k,l,a12,pb,qf,rk,sy,a17,vd,x9,a20,a21,Qf]:=jz hT hM hi hl
theorem T0{a b c d e f g h i j k l a12 pb qf rk sy a17 vd x9 a20 a21 Qf a23:Option MB}(r0 r1 r2 r3 r4 r5 r6 r7 r8 r9 mJ nD oE pq qx rz sM ug vM yY Di JK Ss r23:Option Nat)(hl:mi n0 0 [r0,r1,r2,r3,r4,r5,r6,r7,r8,r9,mJ,nD,oE,pq,qx,rz,sM,ug,vM,yY,Di,JK,Ss,r23] [a,b,c,d,e,f,g,h,i,j,k,l,a12,pb,qf,rk,sy,a17,vd,x9,a20,a21,Qf,a23]=true)(hT:oI (cT [r0,r1,r2,r3,r4,r5,r6,r7,r8,r9,mJ,nD,oE,pq,qx,rz,sM,ug,vM,yY,Di,JK,Ss,r23]) m [a,b,c,d,e,f,g,h,i,j,k,l,a12,pb,qf,rk,sy,a17,vd,x9,a20,a21,Qf,a23] t t')(hM:dV [r0,r1,r2,r3,r4,r5,r6,r7,r8,r9,mJ,nD,oE,pq,qx,rz,sM,ug,vM,yY,Di,JK,Ss,r23] m [a,b,c,d,e,f,g,h,i,j,k,l,a12,pb,qf,rk,sy,a17,vd,x9,a20,a21,Qf,a23] [r0,r1,r2,r3,r4,r5,r6,r7,r8,r9,mJ,nD,oE,pq,qx,rz,sM,ug,vM,yY,Di,JK,Ss,r23] [a,b,c,d,e,f,g,h,i,j,k,l,a12,pb,qf,rk,sy,a17,vd,x9,a20,a21,Qf,a23])(hi:pg [r0,r1,r2,r3,r4,r5,r6,r7,r8,r9,mJ,nD,oE,pq,qx,rz,sM,ug,vM,yY,Di,JK,Ss,r23]=true):jy n0 t m t' [a,b,c,d,e,f,g,h,i,j,k,l,a12,pb,qf,rk,sy,a17,vd,x9,a20,a21,Qf,a23]:=jz hT hM hi hl
theorem zxs(h:p:=by((refine iZ.ZdS (CT.ok hy) ?_);(repeat' (first|exact A1.n|(refine A1.c ?_ ?_) |exact BN.c (vc.r _) |exact BN.c (vc.nil _) |(refine BN.ag ?_) |exact A6.n|(refine A6.c ?_ ?_) |exact vc.r _|exact vc.nil _|exact vc.un _)));(first|done|fail)):p:=h
theorem I7{α β:Type}{n i:Int}{A B:Option α}{F:α→Option β}{r:β}{l:Nat}{k:IntKind}(H:(cond (decide (i=n)) A B).bind F=some r)(h1:A.bind F=some r→cQ P m T (.ms l) (.v (.int k n)) KR)(h2:B.bind F=some r→cQ P m T (.ms l) (.v (.int k i)) KR):cQ P m T (.ms l) (.v (.int k i)) KR:=by
 by_cases h:i=n
 ·subst h;exact h1 (by simpa using H)
 ·exact h2 (by simpa[h]using H)
theorem QB{m m':Mem}{rs:List (Option Nat)}{k k':Nat}{T:TK}(hm:look m k=some ⟨T,k',es⟩)(hc:(es.all fun cs=>cs.all qE)=true)(hd:dropped (cT rs) m' k):oH (cT rs) m m' (.ms k) (.sl es):=
 .fms k ⟨T,k',es⟩ (ji.1 hm) (fun cs h q hq=>V5.1 (V5.1 hc cs h) q hq) hd
theorem MT{T':TK}{l k':Nat}{k:IntKind}{n:Int}(hm:look m l=some ⟨T',k',es⟩)(hn:decide (0≤n∧n<es.length)=true)(hp:0<ga P T)(hk:k'=ga P T)(hK:KR (.be l n.toNat 0)):cQ P m T (.ms l) (.v (.int k n)) KR:=by
 obtain⟨e,hu,he⟩:=tK hp
 rw[he]at hk
 have hn:=of_decide_eq_true hn
 simp only[cQ,hu,mh,hm]
 exact⟨hn.1,hn.2,hk,hK⟩
theorem xu(h:p:=by(try simp only[Kz,KB]);(with_reducible refine ZcF ?_);(first|(with_reducible apply QE) |(with_reducible apply QF) |(with_reducible apply QG) |(with_reducible apply QH) |(with_reducible apply QI) |(with_reducible apply QJ) |(with_reducible apply QK) |(with_reducible apply QL) |(with_reducible apply QM) |(with_reducible apply QN) |(with_reducible apply My) |(with_reducible apply Mz) |(with_reducible apply MA) |(with_reducible apply TP) |(with_reducible apply TQ) |(with_reducible apply TR) |(with_reducible apply TS) |(with_reducible apply TT) |(with_reducible apply TU) |(with_reducible apply TV) |(with_reducible apply TW) |(with_reducible apply TX) |(with_reducible apply TY) |(with_reducible apply TZ) |(with_reducible apply T0));(repeat' (first       |(with_reducible exact RU) |(with_reducible refine RV ?_) |(with_reducible refine RW ?_) |(with_reducible refine MC ?_)       |(with_reducible refine QP ?_ ?_)       |(with_reducible exact ID)       |(with_reducible exact Gb rfl)       |exact Gb rfl       |(with_reducible exact IB)       |(with_reducible refine QO ?_ ?_)       |exact .c _ rfl       |exact .un _       |exact Mv rfl rfl       |exact Mu rfl rfl       |exact Au|exact Cn       |exact Cm rfl rfl       |(refine Cl rfl ?_) |(refine QB rfl rfl ?_) |(refine EI rfl rfl ?_) |(refine Iy rfl rfl rfl ?_)       |(refine Iw rfl rfl ?_)       |(with_reducible refine Ix ?_) |(with_reducible refine MD ?_)       |(with_reducible refine ME ?_)       |(with_reducible exact EE)       |(with_reducible refine Mt ?_ ?_)       |(with_reducible refine Ms ?_)       |(with_reducible refine QA ?_)       |(with_reducible refine QQ ?_)       |(with_reducible exact Ds)       |(refine AP rfl ?_ ?_)       |(refine AQ rfl ?_) |(refine Dr rfl ?_)       |(with_reducible refine AO ?_)       |(with_reducible refine It ?_)       |(with_reducible exact Is)       |(with_reducible refine Iv ?_)       |(with_reducible exact QD)       |(with_reducible refine QC ?_ ?_)       |(with_reducible exact wo)       |(with_reducible refine yn ?_)       |exact wo       |(refine yn ?_)       |(refine Iu ?_)       |(refine EH ?_)       |(refine EG rfl ?_)       |(refine Ck rfl rfl rfl rfl ?_)       |(refine EF ?_ rfl rfl rfl rfl ?_)       |(simp only[aG,jH,Ap,cB8,zx,tr,bS,cK,cO,bp,bA,aS,aB,bt,bc,fK,bO,ig,lk,vl,xo,xp,wg,vm,we])       |(with_unfolding_all rfl)));(all_goals first|(exact xq rfl) |exact none);(first|done|fail)):p:=h
theorem Mb(h:p:=by
 (simp only[List.length_cons,List.length_nil,Nat.reduceAdd,Nat.reduceSub,List.replicate_succ,List.replicate_zero,List.cons_append,List.nil_append,go_sem]);
 repeat' (first
  |((with_reducible refine I7 H ?_ ?_)<;>(clear H;intro H;(try((refine MT (by rfl) (by rfl) (by first|(simp only[go_sem];done) |(simp only[go_sem];decide)) (by first|rfl|(simp only[go_sem];rfl)) ?_);simp only[go_sem,Nat.reduceAdd,Nat.reduceSub,Nat.reduceMul,Nat.reduceLT,Nat.reduceLeDiff,Nat.reduceEqDiff,if_true,eq_self,Int.reduceToNat]))))
  |((with_reducible refine GP ?_ ?_ ?_);(focus (simp[qQ]));(focus (simp only[go_sem]));(simp only[List.cons_append,List.nil_append]))
  |((with_reducible refine De H rfl (by kernel_rfl) ?_);(clear H;intro H;simp only[go_sem,Nat.reduceAdd,Nat.reduceSub,Nat.reduceMul,Nat.reduceLT,Nat.reduceLeDiff,Nat.reduceEqDiff,if_true,eq_self]))
  |((with_reducible refine Sz (Pp H) ?_);(refine Cb H rfl rfl ?_ ?_ ?_ ?_ ?_ ?_ ?_ ?_);(focus (first|rfl|(simp only[CT.args,List.map_cons,List.map_nil,uF,qz,sN,Dz,Dy,Dx];done)));(focus (simp[CT.args,CT.m0,kb,cE,yR,rI,sV,qQ]));(focus (first|exact List.nodup_nil|decide));(focus ((simp only[CT.m0]);(repeat' (first|exact qO|(refine qN (by rfl) ?_) |(refine qP (by rfl) (by rfl) (by simp[cE,rI,sV,qQ]) ?_)))));(focus (intro y_;simp[CT.mem,CT.m0]));(focus (intro y_;(simp only[CT.mem]);(repeat(first|exact xB|exact qk|exact ta|(refine wT qk ?_) |(refine wT (fh (by simp[cE,qQ])) ?_) |exact fh (by simp[cE,qQ]) |(refine uD ?_)))));(focus (intro y_;(simp[CT.res,ln,kb,cE,qQ])));(clear H;intro y_ hy H;simp only[CT.res,CT.mem,kC,List.drop_succ_cons,List.drop_zero,Option.map_none,go_sem,Nat.reduceAdd,Nat.reduceSub,Nat.reduceMul,Nat.reduceLT,Nat.reduceLeDiff,Nat.reduceEqDiff,if_true,eq_self]))
  |((with_reducible refine jnS (jnH H) ?_);(first|((refine G9 H ?_ ?_ (fun K_ hL H=>?_) (fun o_ H=>?_));(focus (decide +kernel));(focus (decide +kernel))) |((refine G8 H ?_ ?_ (fun K_ hL H=>?_) (fun o_ H=>?_));(focus (decide +kernel));(focus (decide +kernel)))))
  |((with_reducible refine ZbM (Pp H) ?_);(refine F8 H rfl rfl rfl ?_ ?_ ?_ ?_ ?_ ?_ ?_ ?_);(focus (first|rfl|(simp only[CT.args,List.map_cons,List.map_nil,uF,qz,sN,Dz,Dy,Dx];done)));(focus (simp[CT.args,CT.m0,kb,cE,yR,rI,sV,qQ]));(focus (first|exact List.nodup_nil|decide));(focus ((simp only[CT.m0]);(repeat' (first|exact qO|(refine qN (by rfl) ?_) |(refine qP (by rfl) (by rfl) (by simp[cE,rI,sV,qQ]) ?_)))));(focus (intro y_;simp[CT.mem,CT.m0]));(focus (intro y_;(simp only[CT.mem]);(repeat(first|exact xB|exact qk|exact ta|(refine wT qk ?_) |(refine wT (fh (by simp[cE,qQ])) ?_) |exact fh (by simp[cE,qQ]) |(refine uD ?_)))));(focus (intro y_;(simp[CT.res,ln,kb,cE,qQ])));(clear H;intro y_ hy H;simp only[CT.res,CT.mem,kC,List.drop_succ_cons,List.drop_zero,Option.map_none,go_sem,Nat.reduceAdd,Nat.reduceSub,Nat.reduceMul,Nat.reduceLT,Nat.reduceLeDiff,Nat.reduceEqDiff,if_true,eq_self]))
  |((with_reducible refine Dg H ?_ ?_);(focus (exact xu));(clear H;intro z_ H))
  |((with_reducible refine G7 H ?_ ?_);(focus (exact xu));(clear H;intro H))
  |((with_reducible refine Hc ?_);intro K_ hK)
  |((with_reducible refine zZ ?_))
  |((with_reducible refine xP ?_);simp only[go_sem,Nat.reduceAdd,Nat.reduceSub,Nat.reduceMul,Nat.reduceLT,Nat.reduceLeDiff,Nat.reduceEqDiff,if_true,eq_self])
  |((with_reducible refine Dh ?_);(try simp only[jf,gC]))
  |((with_reducible refine Df ?_);(simp only[uL,sY,jf,gC,if_true,if_false,eq_self,Nat.reduceEqDiff,Nat.one_ne_zero,Nat.zero_ne_one]);(try simp only[F6,TE,TD]at H))
  |((with_reducible refine Ha ?_);(try simp only[wQ,ur]))
  |((with_reducible refine hQ _ _ ?_);(try simp only[F6,TE,TD]at H);replace H:=NS H;subst H;simp only[Fin,Dl,Ei,go_sem,Nat.reduceAdd,Nat.reduceSub,Nat.reduceMul,Nat.reduceLT,Nat.reduceLeDiff,Nat.reduceEqDiff,if_true,eq_self];exact xu)
  |((with_reducible refine cR _ _ ?_);(try simp only[F6,TE,TD]at H);replace H:=NS H;subst H;simp only[Fin,Dl,Ei,go_sem,Nat.reduceAdd,Nat.reduceSub,Nat.reduceMul,Nat.reduceLT,Nat.reduceLeDiff,Nat.reduceEqDiff,if_true,eq_self];exact xu)
  |((with_reducible refine Q7 ?_);(refine vp (fun hg=>NP H hg ?_) (fun hg=>NQ H hg ?_))<;>(clear H;intro H;simp only[go_sem,Nat.reduceAdd,Nat.reduceSub,Nat.reduceMul,Nat.reduceLT,Nat.reduceLeDiff,Nat.reduceEqDiff,if_true,eq_self]))
  |((with_reducible refine Aa ?_);simp only[Br,Gg,Gf,yr];(first|(with_reducible refine Ci ?_) |(with_reducible refine Ch ?_) |((refine vo (fun hg=>NP H hg ?_) (fun hg=>NQ H hg ?_))<;>(clear H;intro H))))
  |((with_reducible refine Zbp ?_);replace H:=sx H;obtain⟨y_,hy,H⟩:=H;(with_reducible apply K8 hy);(focus (first|(simp only[go_sem];done) |(simp only[go_sem];decide)));(focus (first|rfl|(simp only[go_sem];rfl)));simp only[go_sem,Nat.reduceAdd,Nat.reduceSub,Nat.reduceMul,Nat.reduceLT,Nat.reduceLeDiff,Nat.reduceEqDiff,if_true,eq_self])
  |((with_reducible refine Zbo ?_);replace H:=sx H;obtain⟨y_,hy,H⟩:=H;(first|(refine Gu hy (by rfl) (by first|(simp only[go_sem];done) |(simp only[go_sem];decide)) (by first|rfl|(simp only[go_sem];rfl)) ?_) |(refine CI hy (by rfl) (by first|(simp only[go_sem];done) |(simp only[go_sem];decide)) (by first|rfl|(simp only[go_sem];rfl)) ?_));simp only[go_sem,Nat.reduceAdd,Nat.reduceSub,Nat.reduceMul,Nat.reduceLT,Nat.reduceLeDiff,Nat.reduceEqDiff,if_true,eq_self])
  |((with_reducible refine Zbn ?_);replace H:=sx H;obtain⟨y_,hy,H⟩:=H;(with_reducible apply Gv hy);(focus (simp only[go_sem]));simp only[go_sem,Nat.reduceAdd,Nat.reduceSub,Nat.reduceMul,Nat.reduceLT,Nat.reduceLeDiff,Nat.reduceEqDiff,if_true,eq_self])
  |((with_reducible refine Qu ?_);replace H:=sx H;obtain⟨y_,hy,H⟩:=H;(first|((with_reducible apply sk);(focus (exact CT.ok hy));(focus (simp[CL,qE,qn]));(focus (exact Nat.le_of_ble_eq_true rfl));(focus (exact xf));(focus (first|exact ER rfl|exact ES rfl|exact zC rfl|exact zD rfl|exact(fun h=>(by cases h)) |(simp[CT.res,ln,kb,cE,qQ])));(simp only[CT.res,CT.mem,go_sem,Nat.reduceAdd,Nat.reduceSub,Nat.reduceMul,Nat.reduceLT,Nat.reduceLeDiff,Nat.reduceEqDiff,if_true,eq_self])) |((with_reducible apply sk);(focus (exact zxs));(focus (simp[CL,qE,qn]));(focus (exact Nat.le_of_ble_eq_true rfl));(focus (exact xf));(focus (first|exact ER rfl|exact ES rfl|exact zC rfl|exact zD rfl|exact(fun h=>(by cases h)) |(simp[CT.res,ln,kb,cE,qQ])));(simp only[CT.res,CT.mem,go_sem,Nat.reduceAdd,Nat.reduceSub,Nat.reduceMul,Nat.reduceLT,Nat.reduceLeDiff,Nat.reduceEqDiff,if_true,eq_self])) |((with_reducible apply zw);(focus (first|(simp only[rU,sR,rA,sQ,nG,tw,tv,pt,oJ,oU,List.forall_mem_nil,true_and,and_true,if_true];(first|exact CT.ok hy|(simp only[all_nil,all_cons,qE,qn,true_and,and_true,if_true];exact CT.ok hy))) |(simp only[rU,sR,rA,sQ,nG,tw,tv,pt,oJ,oU,List.forall_mem_nil,true_and,and_true,if_true];(first|(exact zxs) |(simp only[all_nil,all_cons,qE,qn,true_and,and_true,if_true];(exact zxs)))) |(simp only[rU,sR,rA,sQ,nG,tw,tv,pt,oJ,oU,List.forall_mem_nil,true_and,and_true,if_true];(exact zxs))));(focus (exact Nat.le_of_ble_eq_true rfl));(focus (exact xf));(focus (first|exact KX rfl|exact(fun _=>rfl) |(simp[CT.res,ln,kb,cE,HE])));(simp only[CT.res,CT.mem,go_sem,Nat.reduceAdd,Nat.reduceSub,Nat.reduceMul,Nat.reduceLT,Nat.reduceLeDiff,Nat.reduceEqDiff,if_true,eq_self]))))
  |((with_reducible refine ZbT ?_);replace H:=AY H;obtain⟨hc,H⟩:=H;(first|((with_reducible apply DA hc);(focus rfl);(focus rfl);(focus (first|(simp only[go_sem];done) |(simp only[go_sem];decide)));(focus (first|rfl|(intro x_;rfl)));simp only[go_sem,Nat.reduceAdd,Nat.reduceSub,Nat.reduceMul,Nat.reduceLT,Nat.reduceLeDiff,Nat.reduceEqDiff,if_true,eq_self]) |((refine Aj hc (by rfl) (by rfl) (by rfl) (by first|(simp only[go_sem];done) |(simp only[go_sem];decide)) (by first|rfl|(simp only[go_sem];rfl)) ?_);simp only[go_sem,Nat.reduceAdd,Nat.reduceSub,Nat.reduceMul,Nat.reduceLT,Nat.reduceLeDiff,Nat.reduceEqDiff,if_true,eq_self]) |((with_reducible apply Ak hc);(focus rfl);(focus rfl);(focus (simp only[go_sem]));simp only[go_sem,Nat.reduceAdd,Nat.reduceSub,Nat.reduceMul,Nat.reduceLT,Nat.reduceLeDiff,Nat.reduceEqDiff,if_true,eq_self])))
  |((with_reducible refine ZaI ?_);replace H:=AY H;obtain⟨hc,H⟩:=H;(first|(refine F2 hc (by first|(simp only[go_sem];done) |(simp only[go_sem];rfl)) (by first|(simp only[go_sem];done) |(simp only[go_sem];rfl)) (by first|(simp only[go_sem];done) |(simp only[go_sem];rfl)) (by first|(simp only[go_sem];done) |(simp only[go_sem];rfl)) (by rfl) (by first|rfl|exact uH (by rfl) (by rfl) (by rfl)) rfl rfl (by intro x_;rfl) rfl ?_) |(refine F3 hc (by first|(simp only[go_sem];done) |(simp only[go_sem];rfl)) (by first|(simp only[go_sem];done) |(simp only[go_sem];rfl)) (by first|(simp only[go_sem];done) |(simp only[go_sem];rfl)) (by first|(simp only[go_sem];done) |(simp only[go_sem];rfl)) (by first|rfl|exact uH (by rfl) (by rfl) (by rfl)) rfl rfl (by intro x_;rfl) ?_) |(refine F1 hc rfl (by first|(simp only[go_sem];done) |(simp only[go_sem];rfl)) (by first|(simp only[go_sem];done) |(simp only[go_sem];rfl)) (by first|(simp only[go_sem];done) |(simp only[go_sem];rfl)) (by first|(simp only[go_sem];done) |(simp only[go_sem];rfl)) (by rfl) (by rfl) (by rfl) (by rfl) rfl rfl (by rfl) ?_));simp only[go_sem,Nat.reduceAdd,Nat.reduceSub,Nat.reduceMul,Nat.reduceLT,Nat.reduceLeDiff,Nat.reduceEqDiff,if_true,eq_self])
  |((with_reducible refine mkS ?_);replace H:=AY H;obtain⟨hc,H⟩:=H;(refine Li hc (by first|(simp only[go_sem];done) |(simp only[go_sem];rfl)) (by first|(simp only[go_sem];done) |(simp only[go_sem];rfl)) (by first|(simp only[go_sem];done) |(simp only[go_sem];rfl)) (by first|(simp only[go_sem];done) |(simp only[go_sem];rfl)) rfl rfl ?_);simp only[go_sem,Nat.reduceAdd,Nat.reduceSub,Nat.reduceMul,Nat.reduceLT,Nat.reduceLeDiff,Nat.reduceEqDiff,if_true,eq_self])
  |((with_reducible refine ZbC ?_);(first|(with_reducible refine rJ (by decide) ?_) |(replace H:=AY H;obtain⟨hc,H⟩:=H;(first|(refine rJ hc ?_) |(refine rJ (of_decide_eq_true hc) ?_) |(refine rJ ⟨rfl,of_decide_eq_true hc⟩ ?_))));simp only[go_sem,Nat.reduceAdd,Nat.reduceSub,Nat.reduceMul,Nat.reduceLT,Nat.reduceLeDiff,Nat.reduceEqDiff,if_true,eq_self])
  |((with_reducible refine RT ?_);(refine Ab (Hlp H) ?_ ?_);(focus (simp only[bm.T,bm.M,Kz,KB];exact xu));(clear H;intro n_ s_ H K_ hL;replace H:=Hrd H;simp only[bm.T,bm.M,Kz,KB]))
  |((with_reducible refine Dd (by kernel_rfl) ?_);simp only[go_sem,Nat.reduceAdd,Nat.reduceSub,Nat.reduceMul,Nat.reduceLT,Nat.reduceLeDiff,Nat.reduceEqDiff,if_true,eq_self])
  |((with_reducible refine xr (by kernel_rfl) ?_);(try simp only[jf,gC]))
  |((with_reducible refine hK _ _ ?_);clear hK)
  |(clear hK;(with_reducible refine hK _ _ ?_);clear hK)
  |(clear hK;clear hK;(with_reducible refine hK _ _ ?_);clear hK)
  |(clear hK;clear hK;clear hK;(with_reducible refine hK _ _ ?_);clear hK)
  |(clear hK;clear hK;clear hK;clear hK;(with_reducible refine hK _ _ ?_);clear hK)
  |(clear hK;clear hK;clear hK;clear hK;clear hK;(with_reducible refine hK _ _ ?_);clear hK)
  |((with_reducible refine And.intro ?_ ?_);omega)
  |(simp only[BA,By,Bz,Bn];simp only[go_sem,Nat.reduceAdd,Nat.reduceSub,Nat.reduceMul,Nat.reduceLT,Nat.reduceLeDiff,Nat.reduceEqDiff,if_true,eq_self])
  |((first|simp only[OI hy,Option.map_some,List.drop_zero,go_sem] |simp only[E9 hy,Option.map_some,List.drop_zero,go_sem] |simp only[wC hy,qm hy,rG hy,go_sem,Nat.reduceAdd,Nat.reduceSub,Nat.reduceMul,Nat.reduceLT,Nat.reduceLeDiff,Nat.reduceEqDiff,if_true,eq_self] |simp only[qm hy,rG hy,go_sem,Nat.reduceAdd,Nat.reduceSub,Nat.reduceMul,Nat.reduceLT,Nat.reduceLeDiff,Nat.reduceEqDiff,if_true,eq_self]))
  |((with_reducible replace H:=NR H);(with_reducible refine hL _ _ _ H ?_);(try simp only[bm.T,bm.M,Kz,KB]);exact xu)
  |((with_reducible replace H:=NR H);clear hL;(with_reducible refine hL _ _ _ H ?_);(try simp only[bm.T,bm.M,Kz,KB]);exact xu)
  |((with_reducible refine jnX H hL ?_);exact xu)
  |(with_reducible exact(P5 H).elim)
  |((with_reducible replace H:=rgH H);obtain⟨y_,hy,H⟩:=H;(first|simp only[OI hy,Option.map_some,List.drop_zero,go_sem] |simp only[E9 hy,Option.map_some,List.drop_zero,go_sem] |simp only[wC hy,qm hy,rG hy,go_sem,Nat.reduceAdd,Nat.reduceSub,Nat.reduceMul,Nat.reduceLT,Nat.reduceLeDiff,Nat.reduceEqDiff,if_true,eq_self] |simp only[qm hy,rG hy,go_sem,Nat.reduceAdd,Nat.reduceSub,Nat.reduceMul,Nat.reduceLT,Nat.reduceLeDiff,Nat.reduceEqDiff,if_true,eq_self])))):p:=h
@[go_sem] theorem Zca{s d:TypeId}{l:Nat}{K:PV→Prop}:rK P m s d (.ms l) K=(match P.underlying s,P.underlying d with
 |some (.slice e),some .string=>P.underlying e=some (.int .u8)∧live m l fun mb=>mb.k=1∧match tq mb.es with
  |some ns=>K (.v (.string (strOfNums ns)))
  |none=>False
 |_,_=>False):=ec rfl
@[go_sem] theorem Zcs:tq []=some []:=ec rfl
@[go_sem] theorem Zcr{n:Int}:tq ([.v (.int .u8 n)]::es)=(tq es).map (n::·):=ec rfl
def Mj(n:Nat)(hi:Int)(ny b:Nat):Bool:=decide (0≤hi∧hi≤(n:Int)∧0<n)&&bo (n+ny) b
theorem Tx[dB α]{xs ys:List α}{ν l e k n b A B:Nat}{hi:Int}{x:PV}(ik:Mj xs.length hi ys.length b=true)(hu:P.underlying T=some (.slice e))(hz:pz P e=some zc)(hb:P.bytesOf e=b)(hc:P.cellsOf e=n)(hl:look m l=some ⟨e,k,xs.map dB.c⟩)(xE:px m x=some (ys.map dB.c))
 (uZ:zc.length=n) (hp:decide (0<n)=true) (hf:∀x:α,(dB.c x).length=n) (hk:k=n) (hA:A=0) (hB:B=hi.toNat) (hK:KA (.ms ν) (nV (m.set l none) ν ⟨e,k,(cD xs 0 hi++ys).map dB.c⟩)):fZ P ν m T (.ss l A B) x KA:=by
 subst hb hc hA hB hk
 unfold Mj at ik
 rw[VZ]at ik
 obtain⟨h1,h2⟩:=ik
 have h1:=of_decide_eq_true h1
 have h2:=of_decide_eq_true h2
 have iw:¬xs.map dB.c=[]:=fun h=>by have:=congrArg List.length h;simp only[Wg,VY]at this;omega
 have hle:hi.toNat≤xs.length:=by omega
 simp only[fZ,hu,hz,xE,mh,hl,Wg]
 refine⟨uZ,of_decide_eq_true hp,fun cs qF=>?_,trivial,rfl,trivial,⟨hle,iw⟩,by omega,?_,?_⟩
 ·obtain⟨y,_,rfl⟩:=List.mem_map.1 qF
  exact hf y
 ·exact Nat.le_trans (Nat.mul_le_mul_right _ (by omega)) h2.2
 ·have e1:List.take hi.toNat (xs.map dB.c)++ys.map dB.c=(cD xs 0 hi++ys).map dB.c:=by
   unfold cD
   simp only[Int.toNat_zero,List.drop_zero,Nat.sub_zero,List.map_append,List.map_take]
  rw[e1];exact hK
theorem Tw[dB α]{xs ys:List α}{cs:List PV}{ν l e k n b:Nat}{x:PV}(ik:bo (xs.length+ys.length) b=true)(hy:ys.length=1)(hu:P.underlying T=some (.slice e))(hz:pz P e=some zc)(hb:P.bytesOf e=b)(hc:P.cellsOf e=n)(hl:look m l=some ⟨e,k,xs.map dB.c⟩)(xE:px m x=some [cs])
 (qD:cs.length=n) (uZ:zc.length=n) (hp:decide (0<n)=true) (hk:k=n) (hK:KA (.ms ν) (nV (m.set l none) ν ⟨e,k,xs.map dB.c++[cs]⟩)):fZ P ν m T (.ms l) x KA:=by
 subst hk
 subst hb
 have pd:=of_decide_eq_true ik
 rw[hy]at pd
 simp only[fZ,hu,hz,xE,mh,hl,Wg,VX,VY,hc]
 refine⟨uZ,of_decide_eq_true hp,fun ds MN=>?_,rfl,trivial,pd.1,pd.2,hK⟩
 rw[List.mem_singleton]at MN
 subst MN;exact qD
theorem xW(h:p:=by
 (simp only[List.length_cons,List.length_nil,Nat.reduceAdd,Nat.reduceSub,List.replicate_succ,List.replicate_zero,List.cons_append,List.nil_append,go_sem]);
 repeat' (first
  |((with_reducible refine I7 H ?_ ?_)<;>(clear H;intro H;(try((refine MT (by rfl) (by rfl) (by first|(simp only[go_sem];done) |(simp only[go_sem];decide)) (by first|rfl|(simp only[go_sem];rfl)) ?_);simp only[go_sem,Nat.reduceAdd,Nat.reduceSub,Nat.reduceMul,Nat.reduceLT,Nat.reduceLeDiff,Nat.reduceEqDiff,if_true,eq_self,Int.reduceToNat]))))
  |((with_reducible refine GP ?_ ?_ ?_);(focus (simp[qQ]));(focus (simp only[go_sem]));(simp only[List.cons_append,List.nil_append]))
  |((with_reducible refine De H rfl (by kernel_rfl) ?_);(clear H;intro H;simp only[go_sem,Nat.reduceAdd,Nat.reduceSub,Nat.reduceMul,Nat.reduceLT,Nat.reduceLeDiff,Nat.reduceEqDiff,if_true,eq_self]))
  |((with_reducible refine Sz (Pp H) ?_);(refine Cb H rfl rfl ?_ ?_ ?_ ?_ ?_ ?_ ?_ ?_);(focus (first|rfl|(simp only[CT.args,List.map_cons,List.map_nil,uF,qz,sN,Dz,Dy,Dx];done)));(focus (simp[CT.args,CT.m0,kb,cE,yR,rI,sV,qQ]));(focus (first|exact List.nodup_nil|decide));(focus ((simp only[CT.m0]);(repeat' (first|exact qO|(refine qN (by rfl) ?_) |(refine qP (by rfl) (by rfl) (by simp[cE,rI,sV,qQ]) ?_)))));(focus (intro y_;simp[CT.mem,CT.m0]));(focus (intro y_;(simp only[CT.mem]);(repeat(first|exact xB|exact qk|exact ta|(refine wT qk ?_) |(refine wT (fh (by simp[cE,qQ])) ?_) |exact fh (by simp[cE,qQ]) |(refine uD ?_)))));(focus (intro y_;(simp[CT.res,ln,kb,cE,qQ])));(clear H;intro y_ hy H;simp only[CT.res,CT.mem,kC,List.drop_succ_cons,List.drop_zero,Option.map_none,go_sem,Nat.reduceAdd,Nat.reduceSub,Nat.reduceMul,Nat.reduceLT,Nat.reduceLeDiff,Nat.reduceEqDiff,if_true,eq_self]))
  |((with_reducible refine jnS (jnH H) ?_);(first|((refine G9 H ?_ ?_ (fun K_ hL H=>?_) (fun o_ H=>?_));(focus (decide +kernel));(focus (decide +kernel))) |((refine G8 H ?_ ?_ (fun K_ hL H=>?_) (fun o_ H=>?_));(focus (decide +kernel));(focus (decide +kernel)))))
  |((with_reducible refine ZbM (Pp H) ?_);(refine F8 H rfl rfl rfl ?_ ?_ ?_ ?_ ?_ ?_ ?_ ?_);(focus (first|rfl|(simp only[CT.args,List.map_cons,List.map_nil,uF,qz,sN,Dz,Dy,Dx];done)));(focus (simp[CT.args,CT.m0,kb,cE,yR,rI,sV,qQ]));(focus (first|exact List.nodup_nil|decide));(focus ((simp only[CT.m0]);(repeat' (first|exact qO|(refine qN (by rfl) ?_) |(refine qP (by rfl) (by rfl) (by simp[cE,rI,sV,qQ]) ?_)))));(focus (intro y_;simp[CT.mem,CT.m0]));(focus (intro y_;(simp only[CT.mem]);(repeat(first|exact xB|exact qk|exact ta|(refine wT qk ?_) |(refine wT (fh (by simp[cE,qQ])) ?_) |exact fh (by simp[cE,qQ]) |(refine uD ?_)))));(focus (intro y_;(simp[CT.res,ln,kb,cE,qQ])));(clear H;intro y_ hy H;simp only[CT.res,CT.mem,kC,List.drop_succ_cons,List.drop_zero,Option.map_none,go_sem,Nat.reduceAdd,Nat.reduceSub,Nat.reduceMul,Nat.reduceLT,Nat.reduceLeDiff,Nat.reduceEqDiff,if_true,eq_self]))
  |((with_reducible refine Dg H ?_ ?_);(focus (exact xu));(clear H;intro z_ H))
  |((with_reducible refine G7 H ?_ ?_);(focus (exact xu));(clear H;intro H))
  |((with_reducible refine Hc ?_);intro K_ hK)
  |((with_reducible refine zZ ?_))
  |((with_reducible refine xP ?_);simp only[go_sem,Nat.reduceAdd,Nat.reduceSub,Nat.reduceMul,Nat.reduceLT,Nat.reduceLeDiff,Nat.reduceEqDiff,if_true,eq_self])
  |((with_reducible refine Dh ?_);(try simp only[jf,gC]))
  |((with_reducible refine Df ?_);(simp only[uL,sY,jf,gC,if_true,if_false,eq_self,Nat.reduceEqDiff,Nat.one_ne_zero,Nat.zero_ne_one]);(try simp only[F6,TE,TD]at H))
  |((with_reducible refine Ha ?_);(try simp only[wQ,ur]))
  |((with_reducible refine hQ _ _ ?_);(try simp only[F6,TE,TD]at H);replace H:=NS H;subst H;simp only[Fin,Dl,Ei,go_sem,Nat.reduceAdd,Nat.reduceSub,Nat.reduceMul,Nat.reduceLT,Nat.reduceLeDiff,Nat.reduceEqDiff,if_true,eq_self];exact xu)
  |((with_reducible refine cR _ _ ?_);(try simp only[F6,TE,TD]at H);replace H:=NS H;subst H;simp only[Fin,Dl,Ei,go_sem,Nat.reduceAdd,Nat.reduceSub,Nat.reduceMul,Nat.reduceLT,Nat.reduceLeDiff,Nat.reduceEqDiff,if_true,eq_self];exact xu)
  |((with_reducible refine Q7 ?_);(refine vp (fun hg=>NP H hg ?_) (fun hg=>NQ H hg ?_))<;>(clear H;intro H;simp only[go_sem,Nat.reduceAdd,Nat.reduceSub,Nat.reduceMul,Nat.reduceLT,Nat.reduceLeDiff,Nat.reduceEqDiff,if_true,eq_self]))
  |((with_reducible refine Aa ?_);simp only[Br,Gg,Gf,yr];(first|(with_reducible refine Ci ?_) |(with_reducible refine Ch ?_) |((refine vo (fun hg=>NP H hg ?_) (fun hg=>NQ H hg ?_))<;>(clear H;intro H))))
  |((with_reducible refine Zbp ?_);replace H:=sx H;obtain⟨y_,hy,H⟩:=H;(with_reducible apply K8 hy);(focus (first|(simp only[go_sem];done) |(simp only[go_sem];decide)));(focus (first|rfl|(simp only[go_sem];rfl)));simp only[go_sem,Nat.reduceAdd,Nat.reduceSub,Nat.reduceMul,Nat.reduceLT,Nat.reduceLeDiff,Nat.reduceEqDiff,if_true,eq_self])
  |((with_reducible refine Zbo ?_);replace H:=sx H;obtain⟨y_,hy,H⟩:=H;(first|(refine Gu hy (by rfl) (by first|(simp only[go_sem];done) |(simp only[go_sem];decide)) (by first|rfl|(simp only[go_sem];rfl)) ?_) |(refine CI hy (by rfl) (by first|(simp only[go_sem];done) |(simp only[go_sem];decide)) (by first|rfl|(simp only[go_sem];rfl)) ?_));simp only[go_sem,Nat.reduceAdd,Nat.reduceSub,Nat.reduceMul,Nat.reduceLT,Nat.reduceLeDiff,Nat.reduceEqDiff,if_true,eq_self])
  |((with_reducible refine Zbn ?_);replace H:=sx H;obtain⟨y_,hy,H⟩:=H;(with_reducible apply Gv hy);(focus (simp only[go_sem]));simp only[go_sem,Nat.reduceAdd,Nat.reduceSub,Nat.reduceMul,Nat.reduceLT,Nat.reduceLeDiff,Nat.reduceEqDiff,if_true,eq_self])
  |((with_reducible refine Qu ?_);replace H:=sx H;obtain⟨y_,hy,H⟩:=H;(first|((with_reducible apply sk);(focus (exact CT.ok hy));(focus (simp[CL,qE,qn]));(focus (exact Nat.le_of_ble_eq_true rfl));(focus (exact xf));(focus (first|exact ER rfl|exact ES rfl|exact zC rfl|exact zD rfl|exact(fun h=>(by cases h)) |(simp[CT.res,ln,kb,cE,qQ])));(simp only[CT.res,CT.mem,go_sem,Nat.reduceAdd,Nat.reduceSub,Nat.reduceMul,Nat.reduceLT,Nat.reduceLeDiff,Nat.reduceEqDiff,if_true,eq_self])) |((with_reducible apply sk);(focus (exact zxs));(focus (simp[CL,qE,qn]));(focus (exact Nat.le_of_ble_eq_true rfl));(focus (exact xf));(focus (first|exact ER rfl|exact ES rfl|exact zC rfl|exact zD rfl|exact(fun h=>(by cases h)) |(simp[CT.res,ln,kb,cE,qQ])));(simp only[CT.res,CT.mem,go_sem,Nat.reduceAdd,Nat.reduceSub,Nat.reduceMul,Nat.reduceLT,Nat.reduceLeDiff,Nat.reduceEqDiff,if_true,eq_self])) |((with_reducible apply zw);(focus (first|(simp only[rU,sR,rA,sQ,nG,tw,tv,pt,oJ,oU,List.forall_mem_nil,true_and,and_true,if_true];(first|exact CT.ok hy|(simp only[all_nil,all_cons,qE,qn,true_and,and_true,if_true];exact CT.ok hy))) |(simp only[rU,sR,rA,sQ,nG,tw,tv,pt,oJ,oU,List.forall_mem_nil,true_and,and_true,if_true];(first|(exact zxs) |(simp only[all_nil,all_cons,qE,qn,true_and,and_true,if_true];(exact zxs)))) |(simp only[rU,sR,rA,sQ,nG,tw,tv,pt,oJ,oU,List.forall_mem_nil,true_and,and_true,if_true];(exact zxs))));(focus (exact Nat.le_of_ble_eq_true rfl));(focus (exact xf));(focus (first|exact KX rfl|exact(fun _=>rfl) |(simp[CT.res,ln,kb,cE,HE])));(simp only[CT.res,CT.mem,go_sem,Nat.reduceAdd,Nat.reduceSub,Nat.reduceMul,Nat.reduceLT,Nat.reduceLeDiff,Nat.reduceEqDiff,if_true,eq_self]))))
  |((with_reducible refine ZbT ?_);replace H:=AY H;obtain⟨hc,H⟩:=H;(first|((with_reducible apply DA hc);(focus rfl);(focus rfl);(focus (first|(simp only[go_sem];done) |(simp only[go_sem];decide)));(focus (first|rfl|(intro x_;rfl)));simp only[go_sem,Nat.reduceAdd,Nat.reduceSub,Nat.reduceMul,Nat.reduceLT,Nat.reduceLeDiff,Nat.reduceEqDiff,if_true,eq_self]) |((refine Aj hc (by rfl) (by rfl) (by rfl) (by first|(simp only[go_sem];done) |(simp only[go_sem];decide)) (by first|rfl|(simp only[go_sem];rfl)) ?_);simp only[go_sem,Nat.reduceAdd,Nat.reduceSub,Nat.reduceMul,Nat.reduceLT,Nat.reduceLeDiff,Nat.reduceEqDiff,if_true,eq_self]) |((with_reducible apply Ak hc);(focus rfl);(focus rfl);(focus (simp only[go_sem]));simp only[go_sem,Nat.reduceAdd,Nat.reduceSub,Nat.reduceMul,Nat.reduceLT,Nat.reduceLeDiff,Nat.reduceEqDiff,if_true,eq_self])))
  |((with_reducible refine ZaI ?_);replace H:=AY H;obtain⟨hc,H⟩:=H;(first|(refine F2 hc (by first|(simp only[go_sem];done) |(simp only[go_sem];rfl)) (by first|(simp only[go_sem];done) |(simp only[go_sem];rfl)) (by first|(simp only[go_sem];done) |(simp only[go_sem];rfl)) (by first|(simp only[go_sem];done) |(simp only[go_sem];rfl)) (by rfl) (by first|rfl|exact uH (by rfl) (by rfl) (by rfl)) rfl rfl (by intro x_;rfl) rfl ?_) |(refine F3 hc (by first|(simp only[go_sem];done) |(simp only[go_sem];rfl)) (by first|(simp only[go_sem];done) |(simp only[go_sem];rfl)) (by first|(simp only[go_sem];done) |(simp only[go_sem];rfl)) (by first|(simp only[go_sem];done) |(simp only[go_sem];rfl)) (by first|rfl|exact uH (by rfl) (by rfl) (by rfl)) rfl rfl (by intro x_;rfl) ?_) |(refine Tx hc (by first|(simp only[go_sem];done) |(simp only[go_sem];rfl)) (by first|(simp only[go_sem];done) |(simp only[go_sem];rfl)) (by first|(simp only[go_sem];done) |(simp only[go_sem];rfl)) (by first|(simp only[go_sem];done) |(simp only[go_sem];rfl)) (by rfl) (by first|rfl|exact uH (by rfl) (by rfl) (by rfl)) rfl rfl (by intro x_;rfl) rfl rfl rfl ?_) |(refine F1 hc rfl (by first|(simp only[go_sem];done) |(simp only[go_sem];rfl)) (by first|(simp only[go_sem];done) |(simp only[go_sem];rfl)) (by first|(simp only[go_sem];done) |(simp only[go_sem];rfl)) (by first|(simp only[go_sem];done) |(simp only[go_sem];rfl)) (by rfl) (by rfl) (by rfl) (by rfl) rfl rfl (by rfl) ?_) |(refine Tw hc rfl (by first|(simp only[go_sem];done) |(simp only[go_sem];rfl)) (by first|(simp only[go_sem];done) |(simp only[go_sem];rfl)) (by first|(simp only[go_sem];done) |(simp only[go_sem];rfl)) (by first|(simp only[go_sem];done) |(simp only[go_sem];rfl)) (by rfl) (by rfl) (by rfl) rfl rfl rfl ?_));simp only[go_sem,Nat.reduceAdd,Nat.reduceSub,Nat.reduceMul,Nat.reduceLT,Nat.reduceLeDiff,Nat.reduceEqDiff,if_true,eq_self])
  |((with_reducible refine mkS ?_);replace H:=AY H;obtain⟨hc,H⟩:=H;(refine Li hc (by first|(simp only[go_sem];done) |(simp only[go_sem];rfl)) (by first|(simp only[go_sem];done) |(simp only[go_sem];rfl)) (by first|(simp only[go_sem];done) |(simp only[go_sem];rfl)) (by first|(simp only[go_sem];done) |(simp only[go_sem];rfl)) rfl rfl ?_);simp only[go_sem,Nat.reduceAdd,Nat.reduceSub,Nat.reduceMul,Nat.reduceLT,Nat.reduceLeDiff,Nat.reduceEqDiff,if_true,eq_self])
  |((with_reducible refine ZbC ?_);(first|(with_reducible refine rJ (by decide) ?_) |(replace H:=AY H;obtain⟨hc,H⟩:=H;(first|(refine rJ hc ?_) |(refine rJ (of_decide_eq_true hc) ?_) |(refine rJ ⟨rfl,of_decide_eq_true hc⟩ ?_))));simp only[go_sem,Nat.reduceAdd,Nat.reduceSub,Nat.reduceMul,Nat.reduceLT,Nat.reduceLeDiff,Nat.reduceEqDiff,if_true,eq_self])
  |((with_reducible refine RT ?_);(refine Ab (Hlp H) ?_ ?_);(focus (simp only[bm.T,bm.M,Kz,KB];exact xu));(clear H;intro n_ s_ H K_ hL;replace H:=Hrd H;simp only[bm.T,bm.M,Kz,KB]))
  |((with_reducible refine Dd (by kernel_rfl) ?_);simp only[go_sem,Nat.reduceAdd,Nat.reduceSub,Nat.reduceMul,Nat.reduceLT,Nat.reduceLeDiff,Nat.reduceEqDiff,if_true,eq_self])
  |((with_reducible refine xr (by kernel_rfl) ?_);(try simp only[jf,gC]))
  |((with_reducible refine hK _ _ ?_);clear hK)
  |(clear hK;(with_reducible refine hK _ _ ?_);clear hK)
  |(clear hK;clear hK;(with_reducible refine hK _ _ ?_);clear hK)
  |(clear hK;clear hK;clear hK;(with_reducible refine hK _ _ ?_);clear hK)
  |(clear hK;clear hK;clear hK;clear hK;(with_reducible refine hK _ _ ?_);clear hK)
  |(clear hK;clear hK;clear hK;clear hK;clear hK;(with_reducible refine hK _ _ ?_);clear hK)
  |((with_reducible refine And.intro ?_ ?_);omega)
  |(simp only[BA,By,Bz,Bn];simp only[go_sem,Nat.reduceAdd,Nat.reduceSub,Nat.reduceMul,Nat.reduceLT,Nat.reduceLeDiff,Nat.reduceEqDiff,if_true,eq_self])
  |((first|simp only[OI hy,Option.map_some,List.drop_zero,go_sem] |simp only[E9 hy,Option.map_some,List.drop_zero,go_sem] |simp only[wC hy,qm hy,rG hy,go_sem,Nat.reduceAdd,Nat.reduceSub,Nat.reduceMul,Nat.reduceLT,Nat.reduceLeDiff,Nat.reduceEqDiff,if_true,eq_self] |simp only[qm hy,rG hy,go_sem,Nat.reduceAdd,Nat.reduceSub,Nat.reduceMul,Nat.reduceLT,Nat.reduceLeDiff,Nat.reduceEqDiff,if_true,eq_self]))
  |((with_reducible replace H:=NR H);(with_reducible refine hL _ _ _ H ?_);(try simp only[bm.T,bm.M,Kz,KB]);exact xu)
  |((with_reducible replace H:=NR H);clear hL;(with_reducible refine hL _ _ _ H ?_);(try simp only[bm.T,bm.M,Kz,KB]);exact xu)
  |((with_reducible refine jnX H hL ?_);exact xu)
  |(with_reducible exact(P5 H).elim)
  |((with_reducible replace H:=rgH H);obtain⟨y_,hy,H⟩:=H;(first|simp only[OI hy,Option.map_some,List.drop_zero,go_sem] |simp only[E9 hy,Option.map_some,List.drop_zero,go_sem] |simp only[wC hy,qm hy,rG hy,go_sem,Nat.reduceAdd,Nat.reduceSub,Nat.reduceMul,Nat.reduceLT,Nat.reduceLeDiff,Nat.reduceEqDiff,if_true,eq_self] |simp only[qm hy,rG hy,go_sem,Nat.reduceAdd,Nat.reduceSub,Nat.reduceMul,Nat.reduceLT,Nat.reduceLeDiff,Nat.reduceEqDiff,if_true,eq_self])))):p:=h
@[go_sem] theorem ZeD:xH Tryz.prog 314:=⟨_,Tryz.func314,rfl,by kernel_rfl⟩
@[go_sem] theorem ZeE:xH Tryz.prog 367:=⟨_,Tryz.func367,rfl,by kernel_rfl⟩
theorem DL(xs:List Ln)(x:Ln)(o k:Int):cn (xs++[x]) o k=pK o k (cn xs o k) x:=by simp[cn,List.foldl_append]
theorem Lg{xs:List Ln}(h:dC (xs++[x])=true):tM xs x=true:=by
 simp only[dC,VZ]at h
 have h2:=tD.1 h.2 xs.length (by simp)
 simp only[rH,VZ]at h2
 have e1:(xs++[x]).getD xs.length default=x:=by simp
 have e2:(xs++[x]).take xs.length=xs:=by simp
 rw[e1,e2]at h2
 exact h2.2
theorem Ef{xs:List Ln}(h:dC xs=true):(∀x∈xs,1≤x.a∧x.a≤100000)∧xs.length≤200:=by
 simp only[dC,VZ,decide_eq_true_eq]at h
 have:=zg h.2
 rw[Xo]at this
 exact⟨this,h.1⟩
theorem S1{xs:List Ln}(h:dC xs=true)(o k:Int):0≤cn xs o k∧cn xs o k≤20000000:=by
 obtain⟨h1,h2⟩:=Ef h
 have:=Mm o k h1 h2
 omega
structure ZfJ(xs:List Ln)(o du en:Int)(ps:List Int)(t n:Int)(ys:List Ln):Prop where
 again:(Vk ys o du en ps t).2=2
 pos:0<n
 Zem:Zag ys=wrap64 (Zag xs-n)
 Zfr:uc ys o=0
 Zfu:n≤cn ys o 2
 lines:dC ys=true
theorem RQ{xs:List Ln}(h:dC xs=true){i:Nat}(hx:xs[i]?=some x):np x.o x.k x.a x.t=true∧tM (xs.take i) x=true:=by
 simp only[dC,VZ]at h
 have h2:=tD.1 h.2 i (Fa hx)
 simp only[rH,Yv,hx,Option.getD_some,VZ,Wa]at h2
 exact⟨AJ h2.1,h2.2⟩
theorem FG{xs:List Ln}{o k:Int}(h:¬(x.o=o∧x.k=k)):cn (xs++[x]) o k=cn xs o k:=by
 rw[DL]
 simp only[pK,VZ,beq_iff_eq]
 rw[if_neg h]
theorem Kb{xs:List Ln}{o k:Int}(h1:x.o=o)(h2:x.k=k):cn (xs++[x]) o k=wrap64 (cn xs o k+x.a):=by
 rw[DL]
 simp[pK,h1,h2]
theorem IL{a a2 b b2:ByteArray}:Cr Tryz.prog (n+3) 104 [vs a,vs b] [vs a2,vs b2]=some (decide ((⟨a,b⟩:bL)=(⟨a2,b2⟩:bL))):=by
 simp only[Cr,Tryz.underlying104,NA,Tryz.underlying9,Program.fieldsOf,go_sem]
 simp[NA,tq9,baB]
 try rfl
@[go_sem] theorem ZcL{a a2 b b2:ByteArray}:uV Tryz.prog .eql 104 [vs a,vs b] [vs a2,vs b2] KR=KR (vb (decide ((⟨a,b⟩:bL)=(⟨a2,b2⟩:bL)))):=by unfold uV;rw[show(10000:Nat)=9997+3 from rfl,IL,Tryz.underlying104];simp only[NA,true_and]
@[go_sem] theorem Zdx{a a2 b b2:ByteArray}:uV Tryz.prog .neq 104 [vs a,vs b] [vs a2,vs b2] KR=KR (vb (!decide ((⟨a,b⟩:bL)=(⟨a2,b2⟩:bL)))):=by unfold uV;rw[show(10000:Nat)=9997+3 from rfl,IL,Tryz.underlying104];simp only[NA,true_and]
theorem II{a b c d a2 b2 c2 d2:Int}:Cr Tryz.prog (n+3) 107 [vi a,vi b,vi c,vi d] [vi a2,vi b2,vi c2,vi d2]=some (decide ((⟨a,b,c,d⟩:bN)=(⟨a2,b2,c2,d2⟩:bN))):=by
 simp only[Cr,Tryz.underlying3,Tryz.underlying107,NB,Program.fieldsOf,go_sem]
 simp[NB,tq3]
 try rfl
@[go_sem] theorem ZcI{a b c d a2 b2 c2 d2:Int}:uV Tryz.prog .eql 107 [vi a,vi b,vi c,vi d] [vi a2,vi b2,vi c2,vi d2] KR=KR (vb (decide ((⟨a,b,c,d⟩:bN)=(⟨a2,b2,c2,d2⟩:bN)))):=by unfold uV;rw[show(10000:Nat)=9997+3 from rfl,II,Tryz.underlying107];simp only[NB,true_and]
@[go_sem] theorem Zdu{a b c d a2 b2 c2 d2:Int}:uV Tryz.prog .neq 107 [vi a,vi b,vi c,vi d] [vi a2,vi b2,vi c2,vi d2] KR=KR (vb (!decide ((⟨a,b,c,d⟩:bN)=(⟨a2,b2,c2,d2⟩:bN)))):=by unfold uV;rw[show(10000:Nat)=9997+3 from rfl,II,Tryz.underlying107];simp only[NB,true_and]
theorem IH{a b c d a2 b2 c2 d2:Int}:Cr Tryz.prog (n+3) 111 [vi a,vi b,vi c,vi d] [vi a2,vi b2,vi c2,vi d2]=some (decide ((⟨a,b,c,d⟩:aW)=(⟨a2,b2,c2,d2⟩:aW))):=by
 simp only[Cr,Tryz.underlying3,Tryz.underlying111,NC,Program.fieldsOf,go_sem]
 simp[NC,tq3]
 try rfl
@[go_sem] theorem ZcH{a b c d a2 b2 c2 d2:Int}:uV Tryz.prog .eql 111 [vi a,vi b,vi c,vi d] [vi a2,vi b2,vi c2,vi d2] KR=KR (vb (decide ((⟨a,b,c,d⟩:aW)=(⟨a2,b2,c2,d2⟩:aW)))):=by unfold uV;rw[show(10000:Nat)=9997+3 from rfl,IH,Tryz.underlying111];simp only[NC,true_and]
@[go_sem] theorem Zdt{a b c d a2 b2 c2 d2:Int}:uV Tryz.prog .neq 111 [vi a,vi b,vi c,vi d] [vi a2,vi b2,vi c2,vi d2] KR=KR (vb (!decide ((⟨a,b,c,d⟩:aW)=(⟨a2,b2,c2,d2⟩:aW)))):=by unfold uV;rw[show(10000:Nat)=9997+3 from rfl,IH,Tryz.underlying111];simp only[NC,true_and]
end Go.Proofs.YtbalgkakkoocjaaGreat
