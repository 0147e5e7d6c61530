/- A part of the proof of this claim's last theorem. No condition. -/
import Derived.Test.YtbjbellffaenaaaGreatDoorCT15
import Derived.Test.YtbjbellffaenaaaGreatDoorCT13
import Derived.Test.YtbjbellffaenaaaGreatDoorCT16
import Derived.Test.YtbjbellffaenaaaGreatDoorCT11
set_option linter.all false
set_option maxRecDepth 100000
open Go.Value renaming int->Zh
open Go.IntKind renaming i64->Zi
open Go renaming undef->Zj
open Option renaming some->C,none->K
open Bool renaming true->X,false->Zf
open Decidable renaming decide->Zg
open List renaming length->O
open Option renaming bind->R
open _root_ renaming Int->D,List->g,Nat->F,Option->J,cond->L
open Go.Proofs.YtbjbellffaenaaaGreatDoor renaming YA->G,YE->Y,aq->V,de->Z
open Go.Proofs.Tryz
set_option maxHeartbeats 40000000
open Option renaming bind_some->VR,getD_some->W9
open Bool renaming and_true->XS,not_true->VX
open List renaming length_append->V5,mem_append->We,length_cons->V0,length_nil->V2,getElem?_eq_getElem->VS,all_eq_true->VZ
open Option.some renaming inj->VV
open _root_.Int renaming eq_ofNat_of_zero_le->Xg
open Nat renaming le_refl->VW
namespace Go.Proofs.YtbjbellffaenaaaGreatDoor
open Go.RowKit
def nH(n:ab)(l:g V)(aR:D)(ah:D)(aE:g au)(s0:D×(g V)):J ((D×(g V))⊕(g V)):=
 L (Zg (s0.1<(O aE:D)))
 (R (az aE s0.1) λy3=>
 R (pE s0.2 (⟨aR,y3,ah⟩:V)) λy4=>
 C (.inl ((aJ (s0.1+1)),y4)))
 (C (.inr s0.2))
instance (n:ab)(l:g V)(aR:D)(ah:D)(aE:g au):bm (nH n l aR ah aE):=⟨λs0=>(.un::.sl (l.map aG)::vi aR::vi ah::.sl (aE.map bg)::.be 0 0 0::(U 6 (.ms 1::vi s0.1::(U 34 [])))),λs0=>[C ⟨.of 27,3,[aT n]⟩,C ⟨.of 50,4,s0.2.map aG⟩]⟩
def cG(n:ab)(l:g V)(aR:D)(ah:D)(aE:g au):J ((g V)×Bool):=
 R (lz l) λy1=>
 R (fG n l) λy2=>
 L (!y2)
 (C (y1,Zf))
 (L (Zg (20<(O aE:D)))
 (C (y1,Zf))
 ((aB (nH n l aR ah aE) NN (0,y1)).bind (λo0=>
 R (fG n o0) λy5=>
 L (!y5)
 (R (lz l) λy6=>
 C (y6,Zf))
 (C (o0,X)))))
instance (n:ab)(l:g V)(aR:D)(ah:D)(aE:g au):CT prog (cG n l aR ah aE):=⟨256,[.ag (aT n),.sl (l.map aG),vi aR,vi ah,.sl (aE.map bg)],[],λr=>.tu [.ms 0,vb r.2],λr=>[C ⟨.of 50,4,r.1.map aG⟩],cw (cG.eq_1 ..) func256 ntmps256 results256⟩
def iG(n:ab)(l:g V)(aR:D)(cQ:D)(y1:Bool)(s0:D×(g V)):J ((D×(g V))⊕(g V)):=
 L (Zg (s0.1<(O l:D)))
 (L (!y1)
 (R (az l s0.1) λy2=>
 R (cf (bn (O (s0.2:g V)+O ([y2]:g V)) 32)) λ_=>
 C (.inl ((aJ (s0.1+1)),((s0.2:g V)++[y2]))))
 (R (az l s0.1) λy3=>
 L (!decide (y3.aR=aR))
 (R (az l s0.1) λy4=>
 R (cf (bn (O (s0.2:g V)+O ([y4]:g V)) 32)) λ_=>
 C (.inl ((aJ (s0.1+1)),((s0.2:g V)++[y4]))))
 (R (az l s0.1) λy5=>
 R (bp n y5.aN) λy6=>
 L (Zg (y6<cQ))
 (R (az l s0.1) λy7=>
 R (cf (bn (O (s0.2:g V)+O ([y7]:g V)) 32)) λ_=>
 C (.inl ((aJ (s0.1+1)),((s0.2:g V)++[y7]))))
 (C (.inl ((aJ (s0.1+1)),s0.2))))))
 (C (.inr s0.2))
instance (n:ab)(l:g V)(aR:D)(cQ:D)(y1:Bool):bm (iG n l aR cQ y1):=⟨λs0=>(.un::.sl (l.map aG)::vi aR::vi cQ::.be 0 0 0::(U 4 (.ms 1::vb y1::vi s0.1::(U 40 [])))),λs0=>[C ⟨.of 27,3,[aT n]⟩,C ⟨.of 50,4,s0.2.map aG⟩]⟩
def jL(n:ab)(l:g V)(aR:D)(cQ:D):J (g V):=
 R (fG n l) λy1=>
 (aB (iG n l aR cQ y1) NN (0,([]:g V))).bind (λo0=>
 C o0)
instance (n:ab)(l:g V)(aR:D)(cQ:D):CT prog (jL n l aR cQ):=⟨262,[.ag (aT n),.sl (l.map aG),vi aR,vi cQ],[],λr=>.ms 0,λr=>[C ⟨.of 50,4,r.map aG⟩],cw (jL.eq_1 ..) func262 ntmps262 results262⟩
def jI(n:ab)(l:g V)(ak:g au)(gn:ByteArray)(aZ:ByteArray)(rq:D)(ah:D):J ((g au)×Bool):=
 R (iB n l) λy1=>
 L (!y1)
 (C ([],Zf))
 (L (Zg (ah<1))
 (C ([],Zf))
 (R (tJ n l ak ah) λy2=>
 R (rf n y2.1 y2.2.1 y2.2.2.1 y2.2.2.2 gn aZ rq) λy3=>
 C (y3.1,y3.2)))
instance (n:ab)(l:g V)(ak:g au)(gn:ByteArray)(aZ:ByteArray)(rq:D)(ah:D):CT prog (jI n l ak gn aZ rq ah):=⟨175,[.ag (aT n),.sl (l.map aG),.sl (ak.map bg),vs gn,vs aZ,vi rq,vi ah],[],λr=>.tu [.ms 0,vb r.2],λr=>[C ⟨.of 48,2,r.1.map bg⟩],cw (jI.eq_1 ..) func175 ntmps175 results175⟩
def bC(n:ab)(s:aI):J lp:=
 R (gI n s) λy1=>
 L (!y1)
 (C (⟨⟨#[]⟩,0⟩:lp))
 (L (Zg (s.kind=3))
 (R (az n.aC s.aN.bq) λy2=>
 R (ca n s.aN) λy3=>
 C (⟨y2.ar,y3⟩:lp))
 (L (Zg (s.kind=2))
 (R (az n.aC s.aN.bq) λy4=>
 R (ca n s.aN) λy5=>
 C (⟨y4.ar,y5⟩:lp))
 (C (⟨s.place,s.aQ⟩:lp))))
instance (n:ab)(s:aI):CT prog (bC n s):=⟨171,[.ag (aT n),.ag (bA s)],[],λr=>.ag [vs r.place,vi r.aQ],λr=>[],cw (bC.eq_1 ..) func171 ntmps171 results171⟩
def kF(n:ab)(skip:g D):J (aw×Bool):=
 R (fq (⟨n,[],[],[],0,[],skip,0⟩:aw)) λy1=>
 R (gH y1) λy2=>
 L (!y2)
 (C ((⟨(⟨[],[],0⟩:ab),[],[],[],0,[],[],0⟩:aw),Zf))
 (C (y1,X))
def AI(n:ab)(skip:g D){r:aw×Bool}(H:kF n skip=C r):eh prog 135 [.ag (aT n),.sl (skip.map aW)] [] (.tu [.ag [.ms 0,.ms 1,vi r.1.aa.change,.ms 2,.ms 3,.ms 4,vi r.1.now,.ms 5,.ms 6,vi r.1.br],vb r.2]) [C ⟨.of 101,6,r.1.aa.aC.map cY⟩,C ⟨.of 3,1,r.1.aa.off.map aW⟩,C ⟨.of 63,11,r.1.ae.map bx⟩,C ⟨.of 50,4,r.1.av.map aG⟩,C ⟨.of 48,2,r.1.ak.map bg⟩,C ⟨.of 89,6,r.1.aL.map bA⟩,C ⟨.of 3,1,r.1.skip.map aW⟩]:=by
 replace H:=H0 H;unfold kF at H
 refine je func135 rfl ntmps135 results135 λQ hQ Kf=>?_
 exact LA
instance (n:ab)(skip:g D):CT prog (kF n skip):=⟨135,[.ag (aT n),.sl (skip.map aW)],[],λr=>.tu [.ag [.ms 0,.ms 1,vi r.1.aa.change,.ms 2,.ms 3,.ms 4,vi r.1.now,.ms 5,.ms 6,vi r.1.br],vb r.2],λr=>[C ⟨.of 101,6,r.1.aa.aC.map cY⟩,C ⟨.of 3,1,r.1.aa.off.map aW⟩,C ⟨.of 63,11,r.1.ae.map bx⟩,C ⟨.of 50,4,r.1.av.map aG⟩,C ⟨.of 48,2,r.1.ak.map bg⟩,C ⟨.of 89,6,r.1.aL.map bA⟩,C ⟨.of 3,1,r.1.skip.map aW⟩],AI n skip⟩
end Go.Proofs.YtbjbellffaenaaaGreatDoor
namespace Go.Proofs.YtbjbellffaenaaaGreatDoor
open Go.RowKit Go.Sort
variable {d:F}{l:g UInt8}{n:D}{p:aP}
theorem UO{s:ByteArray}{m:D}(hs:s.size<NN)(h:pB s=C m):-1<=m/\m<=96:=by
 have key:∀(k N i:F) (a:D),i+k=s.size->k<N->0<=a/\a<=96->∃o,aB (fo s) N (a,(i:D))=C o/\(∀x,o=.inl x->0<=x/\x<=96)/\∀x,o=.inr x->x=-1:=by
  intro k
  induction k with
  |zero=>
   intro N i a hi hN ha;obtain⟨N,rfl⟩:∃M,N=M+1:=⟨N-1,G⟩;refine⟨.inl a,?_,λx e=>by simp_all,λx e=>by cases e⟩
   unfold aB fo
   simp_all
  |succ k ih=>
   intro N i a hi hN ha;obtain⟨N,rfl⟩:∃M,N=M+1:=⟨N-1,G⟩;obtain⟨y,hy⟩:=CZ (s:=s) (i:=i) G;have hw:=EV hy;have hb:fo s (a,(i:D))=if 48<=y/\y<=57 then C (.inl (Int.tmod (10*a+(y-48)) 97,((i+1:F):D)))else C (.inr (.inr (-1))):=by
    unfold fo;simp only[Yi (show(i:D)<(s.size:D)by omega),Yw,hy,VR,DL hw,cO]
    by_cases hd:48<=y/\y<=57
    ·rw[if_pos hd]
     simp only[Yi hd.1,Yi hd.2,XS,VX,Yx];rw[Zgy (y:=y-48) ⟨G,G⟩,DL (y:=y-48) ⟨G,G⟩,aV (n:=10*a) G,aV (n:=10*a+(y-48)) G,bz (i:=i) (n:=s.size) G (by unfold NN at hs;omega)]
    grind
   show ∃o,(fo s (a,(i:D))).bind (bj (aB (fo s) N) C)=C o/\_;rw[hb]
   by_cases hd:48<=y/\y<=57
   ·rw[if_pos hd]
    have t1:=Int.tmod_nonneg (a:=10*a+(y-48)) 97 G;have t2:=Int.tmod_lt_of_pos (10*a+(y-48)) (b:=97) G;exact ih N (i+1) _ G G ⟨t1,G⟩
   ·rw[if_neg hd]
    simp
 obtain⟨o,h1,h2,h3⟩:=key s.size NN 0 0 G hs ⟨G,G⟩;unfold pB at h
 grind
theorem TX{l:bt}(h1:sF l.ax)(h2:sF l.bU)(h:cU l=C X)(hc:qK l=C n):0<=n/\n<=99:=by
 obtain⟨hs,hd⟩:=tw h;obtain⟨b1,b2⟩:=CK h1 h2 G;have hl:=zm h1 h2 G;obtain⟨a,ha,hal⟩:=CR hd;have Un:=MH ha (show pJ [48,48]=C [48,48]from rfl);have c2:cf (ee (Z (vM l)) (Z [48,48]))=C ():=sOk YZ (by rw[bM];simp)
 have hz:(Z (a++[48,48])).size<NN:=by rw[bM,V5];unfold NN;grind
 obtain⟨m,hm⟩:=I3 hz;have hr:=UO hz hm;unfold qK at hc
 have d1:=DW (l:=vM l++[48,48]) YD;rw[Un]at d1
 simp only[W9,Option.isSome_some]at d1
 simp only[h,b2,d1,VR,VX,Yx,show(⟨#[48,48]⟩:ByteArray)=Z [48,48]from rfl,c2,jP,hm]at hc
 injection hc with hc
 rw[aV G]at hc
 omega
def yF(l:bt)(n:D):g UInt8:=vM l++sq n 2
theorem UC{l:bt}(h3:l.aZ.size<=uY)(h:cU l=C X):∃n,0<=n/\n<=99/\eu l=C (Z (yF l n))/\pA l=C (Z (yF l n)):=by
 obtain⟨r1,r2⟩:=De h;have h1:sF l.ax:=⟨G,G⟩;have h2:sF l.bU:=⟨G,G⟩;obtain⟨e,v,hv⟩:=Gu h3;obtain rfl:X=v:=VV (h.symm.trans hv);have hi:=e.trans h;obtain⟨hs,hd⟩:=tw h;obtain⟨b1,b2⟩:=CK h1 h2 G;have hl:=zm h1 h2 G;obtain⟨n,hn,c1,c2⟩:=PW h1 h2 h hi;obtain⟨n0,n1⟩:=TX h1 h2 h c2;have p1:=Jb (d:=2) hn G;have p2:=Ei (d:=2) hn G;have pl:=Cc (d:=2) hn G;rw[show((2:F):D)=2 from rfl]at p1 p2
 have c3:cf (ee (Z (vM l)) (Z (sq n 2)))=C ():=sOk YZ YZ;refine⟨n,n0,n1,?_,?_⟩
 ·unfold eu;simp only[hi,b1,c1,p1,c3,VR,VX,Yx,jP];rfl
 ·unfold pA;simp only[h,b2,c2,p2,c3,VR,VX,Yx,jP];rfl
theorem Sv{l:bt}(h:cU l=C X)(hn:0<=n):∀c∈yF l n,Gp c:=λc hc=>by
 rcases We.1 hc with h1|h1
 ·exact(tw h).2 c h1
 ·exact Of hn c h1
theorem Zkw(h0:0<=n)(h1:n<=9):Lib.itoa n=[UInt8.ofNat (48+n.toNat)]:=by
 obtain⟨u,rfl⟩:=Xg h0;rw[NB,Lib.decDigits,dif_pos G];rfl
theorem SH{k:F}(h0:0<=n)(h1:n.toNat<10 ^ (k+1)):O (sq n (k+1))=k+1:=by
 obtain⟨u,rfl⟩:=Xg h0;have:=R9 k u G;unfold sq;rw[NB]
 simp_all
theorem SI(l:g UInt8):∀k,Lib.parseUint10 0 (List.replicate k 48++l)=Lib.parseUint10 0 l
 |0=>rfl
 |k+1=>by rw[List.replicate_succ,List.cons_append,Lib.parseUint10];simpa using SI l k
theorem U3(h0:0<=n)(h1:n<=1000000000000):Lib.parseUint10 0 (sq n d)=.ok n.toNat:=by
 obtain⟨u,rfl⟩:=Xg h0;unfold sq;rw[SI,NB];exact Dx u u (VW _) G
theorem Zfy(h:0<=n):∀c∈sq n d,48<=c.toNat/\c.toNat<=57:=by
 intro c hc
 rcases We.1 hc with h1|h1
 ·simp_all
 ·exact NC h c h1
theorem Zd6{u:F}(gL:l≠[])(hd:∀c∈l,48<=c.toNat/\c.toNat<=57)(hp:Lib.parseUint10 0 l=.ok u)(hu:u<=1000000000000):Lib.atoiAll l=.ok u:=by
 cases l with
 |nil=>simp_all
 |cons c r=>
  have:=hd c List.mem_cons_self;have e1:¬c.toNat=43:=G;have e2:¬c.toNat=45:=G;have e3:¬(9223372036854775808:F)<=u:=G;unfold Lib.atoiAll Lib.parseMag
  simp_all
theorem P7{a b c:g UInt8}{i j:F}(hi:O a=i)(hj:j=i+O b):(Z (a++b++c)).extract i j=Z b:=Zgo hi hj
def sX:g D->g UInt8
 | [x,y,z]=>Lib.itoa x++120::(Lib.itoa y++120::Lib.itoa z)
 |_=>[]
def rO(p:aP)(n:D):g UInt8:=yF p.label n++32::(p.ar.data.toList++32::(Lib.itoa p.ah++32::(sX p.bJ++32::Lib.itoa p.value)))
theorem E4(h:∀c∈l,Gp c){c:UInt8}(hc:c.toNat<48\/90<c.toNat):c ∉ l:=λhm=>by have:=h c hm;unfold Gp at this;omega
theorem iY(h:0<=n){c:UInt8}(hc:c.toNat<48\/57<c.toNat):c ∉ Lib.itoa n:=Zfm (NC h) hc
theorem VJ{x y z:D}(hx:0<=x)(hy:0<=y)(hz:0<=z):(32:UInt8) ∉ sX [x,y,z]:=by
 have a:=iY hx (c:=32) YJ;have b:=iY hy (c:=32) YJ;have c:=iY hz (c:=32) YJ;unfold sX
 simp_all
structure Fm(p:aP)(n:D):Prop where
 lab:cU p.label=C X
 n0:0<=n
 n1:n<=99
 fli:eu p.label=C (Z (yF p.label n))
 fls:pA p.label=C (Z (yF p.label n))
 fi:gY p=C (Z (rO p n))
 fs:rB p=C (Z (rO p n))
 to3:p.label.aZ.size=3
 fr:p.ar.size=3/\∀c∈p.ar.data.toList,Gp c
 w:1<=p.ah/\p.ah<=30000
 v:0<=p.value/\p.value<=500000
 sd:∃x y z,p.bJ=[x,y,z]/\(1<=x/\x<=2000)/\(1<=y/\y<=2000)/\(1<=z/\z<=2000)
theorem NI{l:bt}(h:cU l=C X)(hn:0<=n/\n<=99):O (yF l n)<=100:=by
 obtain⟨r1,r2⟩:=De h;have a:=zm (l:=l) (fz G) (fz G) (by have:=(tw h).1;omega)
 have b:=Cc (n:=n) (d:=2) (fz G) G;unfold yF
 grind
theorem QW(h1:p.label.aZ.size<=uY)(h2:p.ar.size<=uY)(h3:O p.bJ<NN)(h:fm p=C X):∃n,Fm p n:=by
 obtain⟨q1,q2,q3,q4,q5⟩:=QU h1 h2 h3 h;obtain⟨n,n0,n1,f1,f2⟩:=UC h1 q1;obtain⟨x,y,z,hs,hx,hy,hz⟩:=ZdF q4;obtain⟨g1,g2⟩:=Ot q2;have hi:iv p=C true:=(wX h1 h2 h3).1.trans h;have i1:sF x:=fz G;have i2:sF y:=fz G;have i3:sF z:=fz G;have i4:sF p.ah:=fz G;have i5:sF p.value:=fz G;have l1:=im i1;have l2:=im i2;have l3:=im i3;have l4:=im i4;have l5:=im i5;have lb:=NI q1 ⟨n0,n1⟩;have s0:az p.bJ 0=C x:=by rw[hs];rfl
 have s1:az p.bJ 1=C y:=by rw[hs];rfl
 have s2:az p.bJ 2=C z:=by rw[hs];rfl
 have ex:(⟨#[120]⟩:ByteArray)=Z [120]:=rfl;have es:(⟨#[32]⟩:ByteArray)=Z [32]:=rfl;have LO:O p.ar.data.toList=p.ar.size:=by rfl
 have hft:p.ar=Z p.ar.data.toList:=(zb _).symm;refine⟨n,q1,n0,n1,f1,f2,?_,?_,(tw q1).1,⟨g1,g2⟩,q3,q5,x,y,z,hs,hx,hy,hz⟩
 ·unfold gY rO
  simp only[hi,s0,s1,s2,fI i1,fI i2,fI i3,fI i4,fI i5,f1,VR,VX,Yx,ex,es];generalize p.ar.data.toList=fl at *
  rw[hft];simp only[jP]
  repeat rw[TN YK,VR]
  simp[hs,sX]
 ·unfold rB rO
  simp only[h,s0,s1,s2,fS i1,fS i2,fS i3,fS i4,fS i5,f2,VR,VX,Yx,ex,es];generalize p.ar.data.toList=fl at *
  rw[hft];simp only[jP]
  repeat rw[TN YK,VR]
  simp[hs,sX]
theorem QT(h:Fm p n):ll 32 (rO p n)=[yF p.label n,p.ar.data.toList,Lib.itoa p.ah,sX p.bJ,Lib.itoa p.value]:=by
 obtain⟨x,y,z,hs,hx,hy,hz⟩:=h.sd;unfold rO;rw[pF (E4 (Sv h.lab h.n0) YJ),pF (E4 h.fr.2 YJ),pF (iY (by have:=h.w;omega) YJ),pF (by rw[hs];exact VJ G G G),ua (iY h.v.1 YJ)]
theorem OV{x y z:D}(hx:0<=x)(hy:0<=y)(hz:0<=z):ll 120 (sX [x,y,z])=[Lib.itoa x,Lib.itoa y,Lib.itoa z]:=by
 unfold sX;rw[pF (iY hx YJ),pF (iY hy YJ),ua (iY hz YJ)]
theorem Jc(h:Fm p n):O (rO p n)<=1000:=by
 obtain⟨x,y,z,hs,hx,hy,hz⟩:=h.sd;have l1:=im (n:=x) (fz G);have l2:=im (n:=y) (fz G);have l3:=im (n:=z) (fz G);have l4:=im (n:=p.ah) (fz (by have:=h.w;omega))
 have l5:=im (n:=p.value) (fz (by have:=h.v;omega))
 have lb:=NI h.lab ⟨h.n0,h.n1⟩;have LO:O p.ar.data.toList=p.ar.size:=by rfl
 have:=h.fr.1;unfold rO;rw[hs];simp only[sX,V5,V0];omega
theorem w1':aJ ((0:D)+1)=1:=by decide
theorem w2':aJ ((1:D)+1)=2:=by decide
theorem w3':aJ ((2:D)+1)=3:=by decide
theorem Zhk{a b:g D}(h:O a+O b<=100000000):cf (bn (O a+O b) 8)=C ():=oB (Yi ⟨G,G⟩)
theorem sO(h:0<=n/\n<=1000000000):dG (Z (Lib.itoa n))=C (n,X):=Uu h.1 h.2 (by have:=im (fz h);omega)
def okJ(a:bk):Bool:=match bS a,bN a with
 |some _,C t=>Zg (t.size<=4000000)
 |_,_=>Zf
def PD(a:bk):Bool:=(bS a).getD Zf
def rk(a:bk):g UInt8:=((bN a).getD ⟨#[]⟩).data.toList++[10]
def iK(l:g bk):J ByteArray:=
 if (O l)<=1048576/\l.all okJ=X then C (if l.all PD=X then Z (l.flatMap rk)else⟨#[]⟩)else K
theorem UG{a:bk}(h:okJ a=X):O (rk a)<=4000001:=by
 unfold okJ at h
 unfold rk
 cases h1:bS a with
 |none=>simp_all
 |some b=>
  cases h2:bN a with
  |none=>simp
  |some t=>
   simp_all
theorem MX{l:g bk}(h:l.all okJ=X):O (l.flatMap rk)<=4000001*O l:=by
 induction l with
 |nil=>simp
 |cons a l ih=>
  rw[List.all_cons,Bool.and_eq_true]at h
  have:=UG h.1
  grind
end Go.Proofs.YtbjbellffaenaaaGreatDoor
namespace Go.Proofs.YtbjbellffaenaaaGreatDoor
open Go.RowKit Go.Lib
variable {a:bk}
theorem qR{w w':World}{b o:F}{v:Value}(h:w.cell? ⟨b,o,K⟩=C v)(hb:b<w.heap.size)(hu:Up w w'):w'.cell? ⟨b,o,K⟩=C v:=(hu.cell (p:=⟨b,o,K⟩) hb).trans h
theorem Zm9{w:World}{S:F->Prop}{a x:Value}(h:eO w S (.v a) x):x=a:=by cases h;rfl
theorem ZkY{w:World}{S:F->Prop}{es:g (g PV)}{x:Value}(h:eO w S (.sl es) x):∃A n c,x=.slice A n c:=by
 cases h with
 |nil=>simp
 |sl=>simp
theorem ZaH{T e:TypeId}{B b:F}{bs:g Value}{w w':World}(h:IsBuilder T e B b bs w)(hu:Up w w'):IsBuilder T e B b bs w':=by
 have key:∀{p:Value},BuilderAt T e B b p bs w->BuilderAt T e B b p bs w':=λ{p} h=>by
  have bD:=h.lt;obtain⟨hB,v,hv,pj,gL⟩:=h;exact⟨hB,v,(hu.block b bD).trans hv,pj.kept (row:=K) ⟨hu.os,hu.tape,hu.output,hu.size,λk hk _=>hu.block k hk⟩ (Classical.em _),gL⟩
 exact h.elim (λx=>.inl (key x)) (λx=>.inr (key x))
def RT(a:bk)(x6:Value):Array Value:=#[I a.kind,I a.aM.label.ax,I a.aM.label.bU,.string a.aM.label.aZ,.string a.aM.ar,I a.aM.ah,x6,I a.aM.value,I a.order,I a.bE,I a.bG,I a.aN.bq,I a.aN.day]
section
variable {l:g bk} {w:World} {S:F->Prop} (hS:∀b,S b->b<w.heap.size) {b off:F} {u:F->F->Value} (hSb:S b)
 (hc:∀(i:F) (cs:g PV) (j:F) (p:PV),(l.map fQ)[i]?=C cs->cs[j]?=C p->w.cell? ⟨b,off+i*13+j,K⟩=C (u i j))
 (hr:∀(i:F) (cs:g PV) (j:F) (p:PV),(l.map fQ)[i]?=C cs->cs[j]?=C p->eO w S p (u i j))
include hS hSb hc hr
theorem TG{k:F}(hx:l[k]?=C a){wr:World}(hu:Up w wr):∃A6 n6 c6,eO w S (.sl (a.aM.bJ.map aW)) (.slice A6 n6 c6)/\
 wr.cell? ⟨b,off+k*13,K⟩=C (I a.kind)/\wr.cell? ⟨b,off+k*13+1,K⟩=C (I a.aM.label.ax)/\wr.cell? ⟨b,off+k*13+2,K⟩=C (I a.aM.label.bU)/\wr.cell? ⟨b,off+k*13+3,K⟩=C (.string a.aM.label.aZ)/\
 wr.cell? ⟨b,off+k*13+4,K⟩=C (.string a.aM.ar)/\wr.cell? ⟨b,off+k*13+5,K⟩=C (I a.aM.ah)/\wr.cell? ⟨b,off+k*13+6,K⟩=C (.slice A6 n6 c6)/\wr.cell? ⟨b,off+k*13+7,K⟩=C (I a.aM.value)/\
 wr.cell? ⟨b,off+k*13+8,K⟩=C (I a.order)/\wr.cell? ⟨b,off+k*13+9,K⟩=C (I a.bE)/\wr.cell? ⟨b,off+k*13+10,K⟩=C (I a.bG)/\wr.cell? ⟨b,off+k*13+11,K⟩=C (I a.aN.bq)/\wr.cell? ⟨b,off+k*13+12,K⟩=C (I a.aN.day):=by
 have hbw:=hS b hSb;have tv:(l.map fQ)[k]?=C (fQ a):=by simp_all
 have va:∀(j:F) (p:PV),(fQ a)[j]?=C p->wr.cell? ⟨b,off+k*13+j,K⟩=C (u k j):=λj p hp=>by
  rw[hu.cell (p:=⟨b,off+k*13+j,K⟩) hbw];simp_all
 have hv:∀(j:F) (x:Value),(fQ a)[j]?=C (.v x)->wr.cell? ⟨b,off+k*13+j,K⟩=C x:=λj x hp=>by
  rw[va j _ hp,Zm9 (hr k _ j _ tv hp)]
 obtain⟨A6,n6,c6,e6⟩:=ZkY (hr k _ 6 _ tv rfl);have r6:=hr k _ 6 _ tv rfl;have c6':=va 6 _ rfl;rw[e6]at r6 c6'
 exact⟨A6,n6,c6,r6,hv 0 _ rfl,hv 1 _ rfl,hv 2 _ rfl,hv 3 _ rfl,hv 4 _ rfl,hv 5 _ rfl,c6',hv 7 _ rfl,hv 8 _ rfl,hv 9 _ rfl,hv 10 _ rfl,hv 11 _ rfl,hv 12 _ rfl⟩
omit hc hr hSb in
theorem Zaw{A6:J Addr}{n6 c6:F}(h6:eO w S (.sl (a.aM.bJ.map aW)) (.slice A6 n6 c6)){W:World}(hu:Up w W):
 ∀(i:F) (p:PV),[PV.ag (fQ a)][i]?=C p->∃x,(#[.agg (RT a (.slice A6 n6 c6))]:Array Value)[i]?=C x/\eC W (E1 (λb=>b<W.heap.size) (λ_=>K) 0) p x:=by
 have h6':eO W (λb=>b<W.heap.size) (.sl (a.aM.bJ.map aW)) (.slice A6 n6 c6):=h6.ext (λb hb=>Nat.lt_of_lt_of_le (hS b hb) hu.size) (λb o hb=>hu.cell (p:=⟨b,o,K⟩) (hS b hb))
 intro i p hp
 match i,hp with
 |0,hp=>
  obtain rfl:=VV hp;refine⟨_,rfl,.ag _ _ rfl (λj x PB=>?_) λj p x hp PB=>?_⟩
  ·match j,PB with
   |0,h|1,h|2,h|3,h|4,h|5,h|6,h|7,h|8,h|9,h|10,h|11,h|12,h=>obtain rfl:=VV h;rfl
   |j+13,h=>simp[RT]at h
  ·match j,hp,PB with
   |6,hp,Gl=>obtain rfl:=VV Gl;obtain rfl:=VV hp;exact .c h6'
   |0,hp,Gl|1,hp,Gl|2,hp,Gl|3,hp,Gl|4,hp,Gl|5,hp,Gl|7,hp,Gl|8,hp,Gl|9,hp,Gl|10,hp,Gl|11,hp,Gl|12,hp,Gl=>obtain rfl:=VV Gl;obtain rfl:=VV hp;exact .c (.v _ rfl)
   |j+13,hp,_=>simp_all
 |n+1,hp=>grind
end
theorem UW(h:okJ a=X):bS a=C (PD a)/\∃tt:ByteArray,bN a=C tt/\tt.size<=4000000/\rk a=tt.data.toList++[10]:=by
 unfold okJ at h
 cases h1:bS a with
 |none=>simp_all
 |some v=>
  cases h2:bN a with
  |none=>simp_all
  |some t=>
   rw[h1,h2]at h
   exact⟨by unfold PD;simp_all,t,rfl,Yu h,by unfold rk;simp_all⟩
theorem Qw(l:g bk)(hl:O l<=1048576)(hok:l.all okJ=X)(w:World)(S:F->Prop)(hS:∀b,S b->b<w.heap.size)(ht:TabF w)
 (b off c:F) (u:F->F->Value) (hSb:S b)
 (hc:∀(i:F) (cs:g PV) (j:F) (p:PV),(l.map fQ)[i]?=C cs->cs[j]?=C p->w.cell? ⟨b,off+i*13+j,K⟩=C (u i j))
 (hr:∀(i:F) (cs:g PV) (j:F) (p:PV),(l.map fQ)[i]?=C cs->cs[j]?=C p->eO w S p (u i j)) (hn:O l<=c) (hm:c<=maxLen):
 Calls prog 17 #[.slice (C ⟨b,off,K⟩) (O l) c] w λe w'=>e=.returned (.string (if l.all PD=X then Z (l.flatMap rk)else⟨#[]⟩))/\Up w w':=by
 generalize hR:(if l.all PD=X then Z (l.flatMap rk)else(⟨#[]⟩:ByteArray))=RR
 have HR:Hid ((if l.all PD=X then Z (l.flatMap rk)else(⟨#[]⟩:ByteArray))=RR):=hR
 clear hR;have hbw:=hS b hSb;have ZbA:=fun(k:F) (a:bk) (hx:l[k]?=C a) (wr:World) (hu:Up w wr)=>TG hS hSb hc hr hx hu
 have HC:Hid _:=ZbA;have hargs:=fun(a:bk) (A6:J Addr) (n6 c6:F) (h6:eO w S (.sl (a.aM.bJ.map aW)) (.slice A6 n6 c6)) (W:World) (hu:Up w W)=>Zaw hS h6 hu
 have HA:Hid _:=hargs;have HT:Hid (TabF w):=ht;have HK:Hid (l.all okJ=X):=hok;clear ZbA hargs ht hok hc hr hS
 go_enter func17,ntmps17
 go_wp2
 go_loopw [10] (λii wr=>∃(k:F),k<=O l/\ii=Zh Zi k/\(l.take k).all PD=X/\Lib.IsBuilder 114 5 w.heap.size w.heap.size (Lib.byteCells ((l.take k).flatMap rk)) wr/\Up w wr) (λii _=>O l-(intOf ii).toNat)
 case atStart=>
  exact⟨0,G,rfl,by simp,Lib.fresh_isBuilder 114 5 w,by(repeat(first|exact Up.rfl' _|(refine Up.al _ ?_) |(refine Up.dr _ ?_) |(refine Up.sZ ?_) |(refine Up.sc ?_ YH _) |(refine Up.step YN ?_)))⟩
 case round=>
  obtain⟨k,hk,rfl,wi,hI,hu⟩:=hrel;have hws:=hu.size;have HB:Hid (IsBuilder 114 5 w.heap.size w.heap.size (Lib.byteCells ((l.take k).flatMap rk)) wr):=hI;have HL:Hid ((l.take k).all PD=X):=wi;clear hI wi
  by_cases bD:k<O l
  ·obtain⟨a,hx⟩:∃a,l[k]?=C a:=⟨_,VS bD⟩
   have Gi:a∈l:=List.mem_of_getElem? hx;have Nl:l.take (k+1)=l.take k++[a]:=by rw[List.take_add_one,hx];rfl
   obtain⟨hIs,tt,hFm,hts,Nd⟩:=UW (VZ.1 HK.out a Gi);obtain⟨A6,n6,c6,r6,d0,d1,d2,d3,d4,d5,d6,d7,d8,d9,d10,d11,d12⟩:=HC.out k a hx wr hu;have hpre:O ((l.take k).flatMap rk)<=4000001*k:=by
    have h1:(l.take k).all okJ=true:=by
     rw[VZ];intro x xi;exact VZ.1 HK.out x (List.mem_of_mem_take xi)
    have:=MX h1
    simp_all
   have cI:=CT.ok (P:=prog) hIs;have cF:=CT.ok (P:=prog) hFm;simp only[CT.f,CT.args,CT.m0,CT.res,CT.mem]at cI cF
   have ZjS:=fun(W:World) (hu:Up w W)=>eh.val cI (tab_of_F (xL HT.out hu)) (vs:=#[.agg (RT a (.slice A6 n6 c6))]) rfl (HA.out a A6 n6 c6 r6 W hu)
   have ZjQ:=fun(W:World) (hu:Up w W)=>eh.val cF (tab_of_F (xL HT.out hu)) (vs:=#[.agg (RT a (.slice A6 n6 c6))]) rfl (HA.out a A6 n6 c6 r6 W hu)
   have HI:Hid (∀W:World,Up w W->Calls prog 35 #[.agg #[I a.kind,I a.aM.label.ax,I a.aM.label.bU,.string a.aM.label.aZ,.string a.aM.ar,I a.aM.ah,.slice A6 n6 c6,I a.aM.value,I a.order,I a.bE,I a.bG,I a.aN.bq,I a.aN.day]] W λe w'=>e=.returned (.bool (PD a))/\Up W w'):=ZjS
   have HF:Hid (∀W:World,Up w W->Calls prog 61 #[.agg #[I a.kind,I a.aM.label.ax,I a.aM.label.bU,.string a.aM.label.aZ,.string a.aM.ar,I a.aM.ah,.slice A6 n6 c6,I a.aM.value,I a.order,I a.bE,I a.bG,I a.aN.bq,I a.aN.day]] W λe w'=>e=.returned (.string tt)/\Up W w'):=ZjQ
   have HM:Hid (a∈l):=Gi;have HTK:Hid (l.take (k+1)=l.take k++[a]):=Nl;have HLN:Hid (rk a=tt.data.toList++[10]):=Nd;have HPR:Hid (O ((l.take k).flatMap rk)<=4000001*k):=hpre;clear ZjS ZjQ hIs hFm cI cF r6 hx Gi Nl Nd hpre
   cases hj:PD a with
   |false=>
    have HJ:Hid (PD a=Zf):=hj;clear hj
    go_wp2_with (go_at_call 35;refine(HI.out _ YB).mono ?_;rintro e w5 ⟨rfl,vQ⟩;rw[HJ.out];refine Hid.out ?_)
    have Sn:Up w w5:=Up.step vQ YB;have hn:l.all PD=false:=by
     rw[List.all_eq_false];exact⟨a,HM.out,by rw[HJ.out];simp⟩
    have HN:Hid (l.all PD=Zf):=hn;clear hn d0 d1 d2 d3 d4 d5 d6 d7 d8 d9 d10 d11 d12 vQ;refine Lib.hid ?_
    go_wp2
    go_ret
    exact⟨by rw[<-HR.out,HN.out];rfl,Sn⟩
   |true=>
    have HJ:Hid (PD a=X):=hj;clear hj
    go_wp2_with (go_at_call 35;refine(HI.out _ YB).mono ?_;rintro e w5 ⟨rfl,vQ⟩;rw[HJ.out];refine Hid.out ?_)
    have Sn:Up w w5:=Up.step vQ YB;have e0:w5.cell? ⟨wr.heap.size,0,K⟩=C (I a.kind):=qR Y Y vQ;have e1:w5.cell? ⟨wr.heap.size,1,K⟩=C (I a.aM.label.ax):=qR Y Y vQ;have e2:w5.cell? ⟨wr.heap.size,2,K⟩=C (I a.aM.label.bU):=qR Y Y vQ;have e3:w5.cell? ⟨wr.heap.size,3,K⟩=C (.string a.aM.label.aZ):=qR Y Y vQ;have e4:w5.cell? ⟨wr.heap.size,4,K⟩=C (.string a.aM.ar):=qR Y Y vQ;have e5:w5.cell? ⟨wr.heap.size,5,K⟩=C (I a.aM.ah):=qR Y Y vQ;have e6:w5.cell? ⟨wr.heap.size,6,K⟩=C (.slice A6 n6 c6):=qR Y Y vQ;have e7:w5.cell? ⟨wr.heap.size,7,K⟩=C (I a.aM.value):=qR Y Y vQ;have e8:w5.cell? ⟨wr.heap.size,8,K⟩=C (I a.order):=qR Y Y vQ;have e9:w5.cell? ⟨wr.heap.size,9,K⟩=C (I a.bE):=qR Y Y vQ;have e10:w5.cell? ⟨wr.heap.size,10,K⟩=C (I a.bG):=qR Y Y vQ;have e11:w5.cell? ⟨wr.heap.size,11,K⟩=C (I a.aN.bq):=qR Y Y vQ;have e12:w5.cell? ⟨wr.heap.size,12,K⟩=C (I a.aN.day):=qR Y Y vQ;have hI5:=ZaH HB.out (Up.step vQ YB);have HB5:=Lib.hid hI5;clear hI5 vQ d0 d1 d2 d3 d4 d5 d6 d7 d8 d9 d10 d11 d12;refine Lib.hid ?_
    go_wp2_with (go_at_call 61;refine(HF.out _ YB).mono ?_;rintro e w7 ⟨rfl,hu7⟩;refine Hid.out ?_)
    have hI7:=ZaH HB5.out hu7;have hu8:Up w w7:=Up.step hu7 Sn;have hb8:w.heap.size<=w7.heap.size:=hu8.size;have HB7:=Lib.hid hI7;clear hI7 hu7 e0 e1 e2 e3 e4 e5 e6 e7 e8 e9 e10 e11 e12;refine Lib.hid ?_
    go_wp2_with (go_at_call 60;refine(RZ w.heap.size w.heap.size _ _ _ HB7.out (by rw[Lib.byteCells_length];simp only[ByteArray.size_append];have:=HPR.out;have e1:(⟨#[10]⟩:ByteArray).size=1:=rfl;omega) hb8).mono ?_;rintro e W1 ⟨rfl,hI1,qV⟩)
    go_roundw
    case rel=>
     refine⟨k+1,G,by simp,?_,?_,Below.trans hu8 qV⟩
     ·rw[HTK.out,List.all_append,HL.out]
      simp only[List.all_cons,List.all_nil,XS,Bool.true_and];exact HJ.out
     ·rw[HTK.out,List.flatMap_append,Lib.byteCells_append]
      have e:([a]:g bk).flatMap rk=tt.data.toList++[10]:=by rw[List.flatMap_cons,HLN.out];simp
      rw[e];have e2:Lib.strCells (tt++⟨#[10]⟩)=Lib.byteCells (tt.data.toList++[10]):=by
       have:tt++⟨#[10]⟩=Z (tt.data.toList++[10]):=by
        conv=>lhs;rw[<-zb tt,show(⟨#[10]⟩:ByteArray)=Z [10]from rfl]
        rw[jP]
       rw[this,Lib.strCells_eq];rfl
      rw[<-e2];exact Or.inr hI1
    case measure=>simp[intOf];omega
  ·have hkl:k=O l:=G
   subst hkl;have wi:=HL.out;have hI:=HB.out;rw[List.take_length]at wi hI
   go_wp2_with (go_at_call 62;refine(Tryz.Builder_String_any w.heap.size w.heap.size _ _ hI hws).mono ?_;rintro e W1 ⟨rfl,qV⟩)
   go_ret
   exact⟨by rw[<-HR.out,wi];rfl,Below.trans hu qV⟩
theorem Ec(A:J Addr)(c:F)(w:World):
 Calls prog 17 #[.slice A 0 c] w λe w'=>e=.returned (.string (Z []))/\Up w w':=by
 go_enter func17,ntmps17
 go_wp2
 go_loopw [10] (λii wr=>ii=Zh Zi 0/\Lib.IsBuilder 114 5 w.heap.size w.heap.size (Lib.byteCells []) wr/\Up w wr) (λii _=>0)
 case atStart=>
  exact⟨rfl,Lib.fresh_isBuilder 114 5 w,by(repeat(first|exact Up.rfl' _|(refine Up.al _ ?_) |(refine Up.dr _ ?_) |(refine Up.sZ ?_) |(refine Up.sc ?_ YH _) |(refine Up.step YN ?_)))⟩
 case round=>
  obtain⟨rfl,hI,hu⟩:=hrel;have hws:=hu.size
  go_wp2_with (go_at_call 62;refine(Tryz.Builder_String_any w.heap.size w.heap.size _ _ hI hws).mono ?_;rintro e W1 ⟨rfl,qV⟩)
  go_ret
  exact⟨rfl,Below.trans hu qV⟩
theorem x8(l:g bk){r:ByteArray}(H:iK l=C r):eh prog 17 [.sl (l.map fQ)] [] (vs r) []:=by
 unfold iK at H
 split at H
 case isFalse=>cases H
 rename_i hok;obtain⟨hl,hok⟩:=hok;obtain rfl:=VV H;refine xn (λw E=>.c (.v _ rfl)) λS β w vs xh ht hvl ha=>?_
 obtain⟨x,hx,hr⟩:=ha 0 _ rfl;obtain rfl:=ar1 hvl hx;have hr:=hr.uk;generalize hq:PV.sl (l.map fQ)=q at hr
 cases hr with
 |v x h=>cases hq
 |ud=>cases hq
 |un=>cases hq
 |rp=>cases hq
 |fn=>cases hq
 |nil A c=>
  have h0:l=[]:=by simpa using hq
  subst h0;exact Ec A c w
 |sl es b off k c u hS hk hn hm zq hc h1 hr4=>
  obtain rfl:l.map fQ=es:=by simpa using hq
  by_cases h0:l=[]
  ·subst h0
   exact Ec _ c w
  ·obtain⟨a,hx⟩:∃a,l[0]?=C a:=⟨l[0]'(List.length_pos_iff.2 h0),VS _⟩
   obtain rfl:13=k:=zq 0 (fQ a) (by rw[List.getElem?_map,hx];rfl)
   rw[List.length_map]at hn⊢
   exact Qw l hl hok w S xh ht b off c u hS hc hr4 hn hm
instance (l:g bk):CT prog (iK l):=⟨17,[.sl (l.map fQ)],[],λr=>vs r,λr=>[],x8 l⟩
