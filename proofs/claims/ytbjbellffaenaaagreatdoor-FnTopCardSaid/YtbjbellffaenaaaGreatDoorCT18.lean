/- A part of the proof of this claim's last theorem. No condition. -/
import Derived.Test.YtbjbellffaenaaaGreatDoorCT15
import Derived.Test.YtbjbellffaenaaaGreatDoorCT16
import Derived.Test.YtbjbellffaenaaaGreatDoorCT13
import Derived.Test.YtbjbellffaenaaaGreatDoorCT11
import Derived.Test.YtbjbellffaenaaaGreatDoorCT12
set_option linter.all false
set_option maxRecDepth 10000
open Option renaming some->g,none->Zd
open Bool renaming true->Ze,false->v
open Decidable renaming decide->u
open List renaming length->y
open Option renaming bind->j
open _root_ renaming List->o,Option->i,cond->d
open Go.Proofs.YtbjbellffaenaaaGreatDoor renaming CT->D,aJ->C,ab->E,au->K,aw->L,az->J,bk->F,cw->G,vi->l,vs->z
open Go.Proofs.Tryz
set_option maxHeartbeats 40000000
namespace Go.Proofs.YtbjbellffaenaaaGreatDoor
open Go.RowKit
def oe(n:E)(cM:ByteArray)(mD:Int)(aC:Int):i (o Int):=
 j (dy n) λy1=>
 d (!y1)
 (g ([]))
 (j (tK n) λy2=>
 j (kW n y2 cM mD aC) λy3=>
 g y3)
instance (n:E)(cM:ByteArray)(mD:Int)(aC:Int):D prog (oe n cM mD aC):=⟨270,[.ag (aT n),z cM,l mD,l aC],[],λr=>.ms 0,λr=>[g ⟨.of 3,1,r.map aW⟩],G (oe.eq_1 ..) func270 ntmps270 results270⟩
def gx(n:E)(cM:ByteArray)(aZ:ByteArray)(cQ:Int):i Int:=
 j (di n) λy1=>
 j (oe n cM cQ (y y1:Int)) λy2=>
 j (bQ y1 aZ) λy3=>
 d (u (y3<0))
 (g (-1))
 (d (u ((y y2:Int)=0))
 (g (-1))
 (j (J y2 y3) λy4=>
 g y4))
instance (n:E)(cM:ByteArray)(aZ:ByteArray)(cQ:Int):D prog (gx n cM aZ cQ):=⟨226,[.ag (aT n),z cM,z aZ,l cQ],[],λr=>l r,λr=>[],G (gx.eq_1 ..) func226 ntmps226 results226⟩
def gN(n:E)(ax:Int)(dq:ByteArray)(aZ:ByteArray)(mE:Int):i Int:=
 j (gx n dq aZ mE) λy1=>
 d (u (y1=(-1)))
 (g (-1))
 (j (ba ax 1 3) λy2=>
 d (!y2)
 (g (-1))
 (d (u (1080<(Int.tmod y1 1440)))
 (j (J ([0,1,4]:o Int) (C (ax-1))) λy3=>
 g (C ((C ((C ((C ((IntKind.i64.wrap (Int.tdiv y1 1440))+1))+y3))*1440))+1080)))
 (j (J ([0,1,4]:o Int) (C (ax-1))) λy4=>
 g (C ((C ((C ((IntKind.i64.wrap (Int.tdiv y1 1440))+y4))*1440))+1080)))))
instance (n:E)(ax:Int)(dq:ByteArray)(aZ:ByteArray)(mE:Int):D prog (gN n ax dq aZ mE):=⟨177,[.ag (aT n),l ax,z dq,z aZ,l mE],[],λr=>l r,λr=>[],G (gN.eq_1 ..) func177 ntmps177 results177⟩
def fp(n:E)(a:lp)(b:lp):i Bool:=
 d (u (a.place=b.place))
 (g (u (a.aQ<=b.aQ)))
 (j (gx n a.place b.place a.aQ) λy1=>
 d (!decide (y1=(-1)))
 (g (u (y1<=b.aQ)))
 (g v))
instance (n:E)(a:lp)(b:lp):D prog (fp n a b):=⟨224,[.ag (aT n),.ag (ZgK a),.ag (ZgK b)],[],λr=>vb r,λr=>[],G (fp.eq_1 ..) func224 ntmps224 results224⟩
def gP(n:E)(cM:ByteArray)(mD:Int)(aZ:ByteArray)(ZaN:Int):i Bool:=
 d (u (cM=aZ))
 (g (u (mD<=ZaN)))
 (j (gx n cM aZ mD) λy1=>
 d (!decide (y1=(-1)))
 (g (u (y1<=ZaN)))
 (g v))
instance (n:E)(cM:ByteArray)(mD:Int)(aZ:ByteArray)(ZaN:Int):D prog (gP n cM mD aZ ZaN):=⟨172,[.ag (aT n),z cM,l mD,z aZ,l ZaN],[],λr=>vb r,λr=>[],G (gP.eq_1 ..) func172 ntmps172 results172⟩
def qE(n:E)(s:aI):i ByteArray:=
 j (gI n s) λy1=>
 d (!y1)
 (g (⟨#[]⟩))
 (d (u (s.kind=3))
 (j (J n.aC s.aN.bq) λy2=>
 g y2.ar)
 (d (u (s.kind=2))
 (j (J n.aC s.aN.bq) λy3=>
 g y3.aZ)
 (g s.place)))
instance (n:E)(s:aI):D prog (qE n s):=⟨225,[.ag (aT n),.ag (bA s)],[],λr=>z r,λr=>[],G (qE.eq_1 ..) func225 ntmps225 results225⟩
def bF(n:E)(s:aI):i lp:=
 j (gI n s) λy1=>
 d (!y1)
 (g (⟨⟨#[]⟩,0⟩:lp))
 (d (u (s.kind=3))
 (j (J n.aC s.aN.bq) λy2=>
 j (cE n s.aN) λy3=>
 g (⟨y2.aZ,y3⟩:lp))
 (j (qE n s) λy4=>
 g (⟨y4,s.aQ⟩:lp)))
instance (n:E)(s:aI):D prog (bF n s):=⟨170,[.ag (aT n),.ag (bA s)],[],λr=>.ag [z r.place,l r.aQ],λr=>[],G (bF.eq_1 ..) func170 ntmps170 results170⟩
def fX(k:eM)(dw:ByteArray):i Bool:=
 d k.known
 (d (!k.Af)
 (g (u (k.place=dw)))
 (g v))
 (d k.free
 (j (gP k.n k.ar.place k.ar.aQ dw k.aQ) λy1=>
 d y1
 (d (!k.more)
 (g Ze)
 (j (gP k.n dw k.aQ k.aZ.place k.aZ.aQ) λy2=>
 g y2))
 (g v))
 (g v))
instance (k:eM)(dw:ByteArray):D prog (fX k dw):=⟨105,[.ag (FV k),z dw],[],λr=>vb r,λr=>[],G (fX.eq_1 ..) func105 ntmps105 results105⟩
def dt(k:eM)(t:K):i Bool:=
 d k.known
 (d k.Af
 (g (u (k.Vx=t)))
 (g v))
 (j (J k.n.aC t.bq) λy1=>
 d (!k.free)
 (g v)
 (j (ca k.n t) λy2=>
 d (u (k.aQ<y2))
 (g v)
 (j (cE k.n t) λy3=>
 d (u (y3<=k.aQ))
 (g v)
 (j (ca k.n t) λy4=>
 j (gP k.n k.ar.place k.ar.aQ y1.ar y4) λy5=>
 d (!y5)
 (g v)
 (d (!k.more)
 (g Ze)
 (j (cE k.n t) λy6=>
 j (gP k.n y1.aZ y6 k.aZ.place k.aZ.aQ) λy7=>
 g y7))))))
instance (k:eM)(t:K):D prog (dt k t):=⟨106,[.ag (FV k),.ag (bg t)],[],λr=>vb r,λr=>[],G (dt.eq_1 ..) func106 ntmps106 results106⟩
def kn(a:L)(b:L)(s0:Int):i (Int⊕(Unit⊕Bool)):=
 d (u (s0<(y a.ae:Int)))
 (j (J a.ae s0) λy1=>
 j (J b.ae s0) λy2=>
 j (nC y1 y2) λy3=>
 d (!y3)
 (g (.inr (.inr v)))
 (g (.inl (C (s0+1)))))
 (g (.inr (.inl ())))
instance (a:L)(b:L):bm (kn a b):=⟨λs0=>(.un::.un::.be 0 0 0::.be 1 0 0::(U 11 (l (y a.ae:Int)::l s0::(U 82 [])))),λs0=>[g ⟨.of 33,10,[cL a]⟩,g ⟨.of 33,10,[cL b]⟩]⟩
def np(a:L)(b:L):i Bool:=
 d (!decide ((y a.ae:Int)=(y b.ae:Int)))
 (g v)
 ((aB (kn a b) NN 0).bind (bj (λo0=>
 j (jU a.aa.aC b.aa.aC) λy4=>
 d y4
 (j (fY a.aa.off b.aa.off) λy5=>
 d y5
 (d (u (a.aa.change=b.aa.change))
 (j (gW a.av b.av) λy6=>
 d y6
 (j (gQ a.ak b.ak) λy7=>
 d y7
 (d (u (a.now=b.now))
 (j (jk a.aL b.aL) λy8=>
 d y8
 (j (fY a.skip b.skip) λy9=>
 d y9
 (g (u (a.br=b.br)))
 (g v))
 (g v))
 (g v))
 (g v))
 (g v))
 (g v))
 (g v))
 (g v)) (λr=>g r)))
instance (a:L)(b:L):D prog (np a b):=⟨63,[.ag (cL a),.ag (cL b)],[],λr=>vb r,λr=>[],G (np.eq_1 ..) func63 ntmps63 results63⟩
def pR(s:ByteArray):i (K×Bool):=
 j (jd s (⟨#[47]⟩)) λy1=>
 j (dG y1.1) λy2=>
 j (dG y1.2.1) λy3=>
 d y1.2.2
 (d y2.2
 (g ((⟨y2.1,y3.1⟩:K),y3.2))
 (g ((⟨y2.1,y3.1⟩:K),v)))
 (g ((⟨y2.1,y3.1⟩:K),v))
instance (s:ByteArray):D prog (pR s):=⟨124,[z s],[],λr=>.tu [.ag [l r.1.bq,l r.1.day],vb r.2],λr=>[],G (pR.eq_1 ..) func124 ntmps124 results124⟩
def eV(s:ByteArray):i (F×Bool):=
 j (jd s (⟨#[32]⟩)) λy1=>
 (jn 3 23 (
 d (u (y1.1=⟨#[116,97,107,101]⟩))
 (j (kp y1.2.1) λy2=>
 g (.inl (1,y2.1.label.ax,y2.1.label.bU,y2.1.label.aZ,y2.1.ar,y2.1.ah,y2.1.value,0,0,0,0,0,y2.1.bJ)))
 (d (u (y1.1=⟨#[112,97,121]⟩))
 (j (jd y1.2.1 (⟨#[32]⟩)) λy3=>
 j (dG y3.1) λy4=>
 j (dG y3.2.1) λy5=>
 g (.inl (2,0,0,⟨#[]⟩,⟨#[]⟩,0,0,y4.1,y5.1,0,0,0,[])))
 (d (u (y1.1=⟨#[114,117,110]⟩))
 (j (dG y1.2.1) λy6=>
 g (.inl (3,0,0,⟨#[]⟩,⟨#[]⟩,0,0,0,0,y6.1,0,0,[])))
 (d (u (y1.1=⟨#[115,104,117,116]⟩))
 (j (pR y1.2.1) λy7=>
 g (.inl (4,0,0,⟨#[]⟩,⟨#[]⟩,0,0,0,0,0,y7.1.bq,y7.1.day,[])))
 (d (u (y1.1=⟨#[114,101,116,114,121]⟩))
 (g (.inl (5,0,0,⟨#[]⟩,⟨#[]⟩,0,0,0,0,0,0,0,[])))
 (d (u (y1.1=⟨#[114,101,102,117,110,100]⟩))
 (j (dG y1.2.1) λy8=>
 g (.inl (6,0,0,⟨#[]⟩,⟨#[]⟩,0,0,y8.1,0,0,0,0,[])))
 (g (.inl (0,0,0,⟨#[]⟩,⟨#[]⟩,0,0,0,0,0,0,0,[])))))))):i ((Int×Int×Int×ByteArray×ByteArray×Int×Int×Int×Int×Int×Int×Int×(o Int))⊕Empty)) (λz9=>(z s::.un::.be 0 0 0::(U 4 (.be 1 0 0::(U 81 []))))) (λz9=>[g ⟨.of 60,13,[[l 0,l 0,l 0,z (⟨#[]⟩),z (⟨#[]⟩),l 0,.v (.slice Zd 0 0),l 0,l 0,l 0,l 0,l 0,l 0]]⟩,g ⟨.of 60,13,[[l z9.1,l z9.2.1,l z9.2.2.1,z z9.2.2.2.1,z z9.2.2.2.2.1,l z9.2.2.2.2.2.1,.ms 2,l z9.2.2.2.2.2.2.1,l z9.2.2.2.2.2.2.2.1,l z9.2.2.2.2.2.2.2.2.1,l z9.2.2.2.2.2.2.2.2.2.1,l z9.2.2.2.2.2.2.2.2.2.2.1,l z9.2.2.2.2.2.2.2.2.2.2.2.1]]⟩,g ⟨.of 3,1,z9.2.2.2.2.2.2.2.2.2.2.2.2.map aW⟩])).bind (bj (λz9=>
 d (u (s=⟨#[]⟩))
 (g ((⟨0,(⟨(⟨0,0,⟨#[]⟩⟩:bt),⟨#[]⟩,0,[],0⟩:aP),0,0,0,(⟨0,0⟩:K)⟩:F),v))
 (j (bN (⟨z9.1,(⟨(⟨z9.2.1,z9.2.2.1,z9.2.2.2.1⟩:bt),z9.2.2.2.2.1,z9.2.2.2.2.2.1,z9.2.2.2.2.2.2.2.2.2.2.2.2,z9.2.2.2.2.2.2.1⟩:aP),z9.2.2.2.2.2.2.2.1,z9.2.2.2.2.2.2.2.2.1,z9.2.2.2.2.2.2.2.2.2.1,(⟨z9.2.2.2.2.2.2.2.2.2.2.1,z9.2.2.2.2.2.2.2.2.2.2.2.1⟩:K)⟩:F)) λdO=>
 d (!decide (dO=s))
 (g ((⟨0,(⟨(⟨0,0,⟨#[]⟩⟩:bt),⟨#[]⟩,0,[],0⟩:aP),0,0,0,(⟨0,0⟩:K)⟩:F),v))
 (g ((⟨z9.1,(⟨(⟨z9.2.1,z9.2.2.1,z9.2.2.2.1⟩:bt),z9.2.2.2.2.1,z9.2.2.2.2.2.1,z9.2.2.2.2.2.2.2.2.2.2.2.2,z9.2.2.2.2.2.2.1⟩:aP),z9.2.2.2.2.2.2.2.1,z9.2.2.2.2.2.2.2.2.1,z9.2.2.2.2.2.2.2.2.2.1,(⟨z9.2.2.2.2.2.2.2.2.2.2.1,z9.2.2.2.2.2.2.2.2.2.2.2.1⟩:K)⟩:F),Ze)))) (λr=>r.elim))
instance (s:ByteArray):D prog (eV s):=⟨59,[z s],[],λr=>.tu [.ag [l r.1.kind,l r.1.aM.label.ax,l r.1.aM.label.bU,z r.1.aM.label.aZ,z r.1.aM.ar,l r.1.aM.ah,.ms 0,l r.1.aM.value,l r.1.order,l r.1.bE,l r.1.bG,l r.1.aN.bq,l r.1.aN.day],vb r.2],λr=>[g ⟨.of 3,1,r.1.aM.bJ.map aW⟩],G (eV.eq_1 ..) func59 ntmps59 results59⟩
def jo(y1:o ByteArray)(s0:Int×(o F)):i ((Int×(o F))⊕(o F)):=
 d (u (s0.1<((Int.toNat (C ((y y1:Int)-1))-Int.toNat 0:Nat):Int)))
 (j (J (da y1 0 (C ((y y1:Int)-1))) s0.1) λy2=>
 j (eV y2) λy3=>
 d (!y3.2)
 (g (.inr s0.2))
 (d (u (150<=(y s0.2:Int)))
 (g (.inr s0.2))
 (j (cf (bn (y (s0.2:o F)+y ([y3.1]:o F)) 136)) λ_=>
 g (.inl ((C (s0.1+1)),((s0.2:o F)++[y3.1]))))))
 (g (.inr s0.2))
instance (y1:o ByteArray):bm (jo y1):=⟨λs0=>(U 4 (.ms 0::(U 11 (.sl ((da y1 0 (C ((y y1:Int)-1))).map jQ)::l ((Int.toNat (C ((y y1:Int)-1))-Int.toNat 0:Nat):Int)::l s0.1::(U 21 []))))),λs0=>[g ⟨⟨60,g 3⟩,13,s0.2.map fQ⟩]⟩
def jB(s:ByteArray):i (o F):=
 j (jM s (⟨#[10]⟩)) λy1=>
 j (cf (iq 0 (C ((y y1:Int)-1)) (y y1))) λ_=>
 (aB (jo y1) NN (0,([]:o F))).bind (λo0=>
 g o0)
instance (s:ByteArray):D prog (jB s):=⟨16,[z s],[],λr=>.ms 0,λr=>[g ⟨⟨60,g 3⟩,13,r.map fQ⟩],ck (jB.eq_1 ..) func16 ntmps16 results16⟩
def nn(w:L)(id:Int):i Int:=
 j (fR w) λy1=>
 d (!y1)
 (g (-1))
 (j (ba id 1 (y w.ae:Int)) λy2=>
 d (!y2)
 (g (-1))
 (j (J w.ae (C (id-1))) λy3=>
 j (eU w y3) λy4=>
 d y4
 (g (-1))
 (d (u ((y y3.aE:Int)=0))
 (g (-1))
 (j (J y3.aE (C ((y y3.aE:Int)-1))) λy5=>
 j (cE w.aa y5) λy6=>
 g y6))))
instance (w:L)(id:Int):D prog (nn w id):=⟨15,[.ag (cL w),l id],[],λr=>l r,λr=>[],G (nn.eq_1 ..) func15 ntmps15 results15⟩
