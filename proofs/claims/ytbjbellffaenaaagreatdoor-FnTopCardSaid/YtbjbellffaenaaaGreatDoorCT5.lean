/- A part of the proof of this claim's last theorem. No condition. -/
import Derived.Test.YtbjbellffaenaaaGreatDoorCT4
set_option linter.all false
set_option maxRecDepth 10000
open Option renaming some->s,none->Zd
open Bool renaming true->Ze,false->C
open Decidable renaming decide->y
open List renaming length->D
open Option renaming bind->v
open _root_ renaming List->u,Nat->E,Option->j,Unit->M,cond->g
open Go.Proofs.YtbjbellffaenaaaGreatDoor renaming CT->J,aq->z,cw->K,vb->L,vi->o,vs->F,ya->G
open Go.Proofs.Tryz
set_option maxHeartbeats 40000000
namespace Go.Proofs.YtbjbellffaenaaaGreatDoor
open Go.RowKit
variable {KR:PV->Prop}{n:E}
def gz(l:bP):j Bool:=
 v (cu l.ar) λy1=>
 g y1
 (v (cu l.aZ) λy2=>
 g y2
 (g (!decide (l.ar=l.aZ))
 (v (bh l.start 0 1439) λy3=>
 g y3
 (v (bh l.o8 1 4320) λy4=>
 g y4
 (v (bh l.yr 1 127) λy5=>
 g y5
 (v (bh l.jb 0 1000000) λy6=>
 s y6)
 (s C))
 (s C))
 (s C))
 (s C))
 (s C))
 (s C)
instance (l:bP):J prog (gz l):=⟨303,[.ag (cY l)],[],λr=>L r,λr=>[],K (gz.eq_1 ..) func303 ntmps303 results303⟩
def cq(n:ab)(s0:Int):j (Int⊕(M⊕Bool)):=
 g (y (s0<(D n.aC:Int)))
 (v (az n.aC s0) λy1=>
 v (gz y1) λy2=>
 g (!y2)
 (s (.inr (.inr C)))
 (s (.inl (aJ (s0+1)))))
 (s (.inr (.inl ())))
instance (n:ab):bm (cq n):=⟨λs0=>(.un::.be 0 0 0::.un::o s0::(U 62 [])),λs0=>[s ⟨.of 27,3,[aT n]⟩]⟩
def cr(n:ab)(s1:Int):j (Int⊕(M⊕Bool)):=
 g (y (s1<(D n.off:Int)))
 (v (az n.off s1) λy3=>
 v (bh y3 0 60) λy4=>
 g (!y4)
 (s (.inr (.inr C)))
 (g (y (0<s1))
 (v (az n.off (aJ (s1-1))) λy5=>
 v (az n.off s1) λy6=>
 g (y (y6<=y5))
 (s (.inr (.inr C)))
 (s (.inl (aJ (s1+1)))))
 (s (.inl (aJ (s1+1))))))
 (s (.inr (.inl ())))
instance (n:ab):bm (cr n):=⟨λs1=>(.un::.be 0 0 0::.un::.un::o s1::(U 61 [])),λs1=>[s ⟨.of 27,3,[aT n]⟩]⟩
def aX(n:ab):j Bool:=
 (aB (cq n) NN 0).bind (bj (λo0=>
 (aB (cr n) NN 0).bind (bj (λo1=>
 g (y ((D n.aC:Int)<=20))
 (g (y ((D n.off:Int)<=10))
 (v (bh n.change 0 240) λy7=>
 s y7)
 (s C))
 (s C)) (λr=>s r))) (λr=>s r))
instance (n:ab):J prog (aX n):=⟨243,[.ag (aT n)],[],λr=>L r,λr=>[],K (aX.eq_1 ..) func243 ntmps243 results243⟩
def cP(a:Int)(b:Int):j Int:=
 g (y (a<b))
 (s (-1))
 (g (y (b<a))
 (s 1)
 (s 0))
instance (a:Int)(b:Int):J prog (cP a b):=⟨96,[o a,o b],[],λr=>o r,λr=>[],K (cP.eq_1 ..) func96 ntmps96 results96⟩
def cJ(list:u Int)(s0:Int):j (Int⊕(M⊕Int)):=
 g (y (s0<(D list:Int)))
 (v (az list s0) λy1=>
 g (!decide (y1=0))
 (s (.inr (.inr y1)))
 (s (.inl (aJ (s0+1)))))
 (s (.inr (.inl ())))
instance (list:u Int):bm (cJ list):=⟨λs0=>(U 5 (.sl (list.map aW)::o (D list:Int)::o s0::(U 7 []))),λs0=>[]⟩
def ld(list:u Int):j Int:=
 (aB (cJ list) NN 0).bind (bj (λo0=>
 s 0) (λr=>s r))
instance (list:u Int):J prog (ld list):=⟨95,[.sl (list.map aW)],[],λr=>o r,λr=>[],K (ld.eq_1 ..) func95 ntmps95 results95⟩
def gO(a:z)(b:z):j Int:=
 v (cP a.aN.day b.aN.day) λy1=>
 v (cP a.aN.bq b.aN.bq) λy2=>
 v (cP a.aR b.aR) λy3=>
 v (ld ([y1,y2,y3])) λy4=>
 s y4
instance (a:z)(b:z):J prog (gO a b):=⟨109,[.ag (aG a),.ag (aG b)],[],λr=>o r,λr=>[],K (gO.eq_1 ..) func109 ntmps109 results109⟩
def na(a:z)(b:z):j Bool:=
 g (!decide (a.aN.day=b.aN.day))
 (s (y (a.aN.day<b.aN.day)))
 (g (!decide (a.aN.bq=b.aN.bq))
 (s (y (a.aN.bq<b.aN.bq)))
 (s (y (a.aR<b.aR))))
instance (a:z)(b:z):J prog (na a b):=⟨244,[.ag (aG a),.ag (aG b)],[],λr=>L r,λr=>[],K (na.eq_1 ..) func244 ntmps244 results244⟩
def ga(x:ay):j Int:=
 g (y (x.state=2))
 (s (aJ (x.aH+1)))
 (s x.aH)
instance (x:ay):J prog (ga x):=⟨216,[.ag (bx x)],[],λr=>o r,λr=>[],K (ga.eq_1 ..) func216 ntmps216 results216⟩
def eA(n:ab)(x:ay):j ByteArray:=
 g (y (x.state=2))
 (v (az x.aE x.aH) λy1=>
 v (az n.aC y1.bq) λy2=>
 s y2.aZ)
 (s x.place)
instance (n:ab)(x:ay):J prog (eA n x):=⟨263,[.ag (aT n),.ag (bx x)],[],λr=>F r,λr=>[],K (eA.eq_1 ..) func263 ntmps263 results263⟩
def mn(w:aw)(i:Int):j Bool:=
 v (az w.ae i) λy1=>
 g (!decide (y1.state=3))
 (v (ga y1) λy2=>
 g (y (y2=(D y1.aE:Int)))
 (v (eA w.aa y1) λy3=>
 s (!decide (y3=y1.aZ)))
 (s C))
 (s C)
instance (w:aw)(i:Int):J prog (mn w i):=⟨264,[.ag (cL w),o i],[],λr=>L r,λr=>[],K (mn.eq_1 ..) func264 ntmps264 results264⟩
def oq(l:u z)(aR:Int)(t:au)(ah:Int)(s0:Int):j (Int⊕(M⊕Bool)):=
 g (y (s0<(D l:Int)))
 (v (az l s0) λy1=>
 g (y (y1=(⟨aR,t,ah⟩:z)))
 (s (.inr (.inr Ze)))
 (s (.inl (aJ (s0+1)))))
 (s (.inr (.inl ())))
instance (l:u z)(aR:Int)(t:au)(ah:Int):bm (oq l aR t ah):=⟨λs0=>(.sl (l.map aG)::o aR::.un::o ah::.un::.un::.be 0 0 0::.un::.un::o s0::(U 15 [])),λs0=>[s ⟨.of 48,2,[[o t.bq,o t.day]]⟩]⟩
def oT(l:u z)(aR:Int)(t:au)(ah:Int):j Bool:=
 (aB (oq l aR t ah) NN 0).bind (bj (λo0=>
 s C) (λr=>s r))
instance (l:u z)(aR:Int)(t:au)(ah:Int):J prog (oT l aR t ah):=⟨249,[.sl (l.map aG),o aR,.ag (bg t),o ah],[],λr=>L r,λr=>[],K (oT.eq_1 ..) func249 ntmps249 results249⟩
theorem MT{a a2 b b2:ByteArray}:F2 prog (n+3) 124 [F a,F b] [F a2,F b2]=s (y ((⟨a,b⟩:cB)=(⟨a2,b2⟩:cB))):=by
 simp only[F2,Tryz.underlying124,To,Tryz.underlying9,Program.fieldsOf,go_sem];simp[To,tq9,baB]
 try rfl
@[go_sem] theorem ZjL{a a2 b b2:ByteArray}:G prog .eql 124 [F a,F b] [F a2,F b2] KR=KR (L (y ((⟨a,b⟩:cB)=(⟨a2,b2⟩:cB)))):=by unfold G;rw[show(10000:E)=9997+3 from rfl,MT,Tryz.underlying124];simp only[To,true_and]
@[go_sem] theorem ZkI{a a2 b b2:ByteArray}:G prog .neq 124 [F a,F b] [F a2,F b2] KR=KR (L (!decide ((⟨a,b⟩:cB)=(⟨a2,b2⟩:cB)))):=by unfold G;rw[show(10000:E)=9997+3 from rfl,MT,Tryz.underlying124];simp only[To,true_and]
theorem MQ{a b c d a2 b2 c2 d2:Int}:F2 prog (n+3) 127 [o a,o b,o c,o d] [o a2,o b2,o c2,o d2]=s (y ((⟨a,b,c,d⟩:bH)=(⟨a2,b2,c2,d2⟩:bH))):=by
 simp only[F2,Tryz.underlying3,Tryz.underlying127,Tp,Program.fieldsOf,go_sem];simp[Tp,tq3];rfl
@[go_sem] theorem ZjI{a b c d a2 b2 c2 d2:Int}:G prog .eql 127 [o a,o b,o c,o d] [o a2,o b2,o c2,o d2] KR=KR (L (y ((⟨a,b,c,d⟩:bH)=(⟨a2,b2,c2,d2⟩:bH)))):=by unfold G;rw[show(10000:E)=9997+3 from rfl,MQ,Tryz.underlying127];simp only[Tp,true_and]
@[go_sem] theorem ZkF{a b c d a2 b2 c2 d2:Int}:G prog .neq 127 [o a,o b,o c,o d] [o a2,o b2,o c2,o d2] KR=KR (L (!decide ((⟨a,b,c,d⟩:bH)=(⟨a2,b2,c2,d2⟩:bH)))):=by unfold G;rw[show(10000:E)=9997+3 from rfl,MQ,Tryz.underlying127];simp only[Tp,true_and]
theorem MP{a b c d a2 b2 c2 d2:Int}:F2 prog (n+3) 82 [o a,o b,o c,o d] [o a2,o b2,o c2,o d2]=s (y ((⟨a,b,c,d⟩:bf)=(⟨a2,b2,c2,d2⟩:bf))):=by
 simp only[F2,Tryz.underlying3,Tryz.underlying82,Zgw,Program.fieldsOf,go_sem];simp[Zgw,tq3];rfl
@[go_sem] theorem ZjH{a b c d a2 b2 c2 d2:Int}:G prog .eql 82 [o a,o b,o c,o d] [o a2,o b2,o c2,o d2] KR=KR (L (y ((⟨a,b,c,d⟩:bf)=(⟨a2,b2,c2,d2⟩:bf)))):=by unfold G;rw[show(10000:E)=9997+3 from rfl,MP,Tryz.underlying82];simp only[Zgw,true_and]
@[go_sem] theorem ZkE{a b c d a2 b2 c2 d2:Int}:G prog .neq 82 [o a,o b,o c,o d] [o a2,o b2,o c2,o d2] KR=KR (L (!decide ((⟨a,b,c,d⟩:bf)=(⟨a2,b2,c2,d2⟩:bf)))):=by unfold G;rw[show(10000:E)=9997+3 from rfl,MP,Tryz.underlying82];simp only[Zgw,true_and]
def lz(l:u z):j (u z):=
 v (cf (bn (D (([]:u z):u z)+D (l:u z)) 32)) λ_=>
 s ((([]:u z):u z)++l)
instance (l:u z):J prog (lz l):=⟨136,[.sl (l.map aG)],[],λr=>.ms 0,λr=>[s ⟨.of 50,4,r.map aG⟩],K (lz.eq_1 ..) func136 ntmps136 results136⟩
@[go_sem] theorem Zl5:wk prog 284:=⟨_,func284,rfl,by kernel_rfl⟩
@[go_sem] theorem Zl6:wk prog 371:=⟨_,func371,rfl,by kernel_rfl⟩
