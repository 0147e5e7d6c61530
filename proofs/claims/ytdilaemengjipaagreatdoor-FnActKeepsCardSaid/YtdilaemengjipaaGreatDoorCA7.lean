/- A part of the proof of the statement in the last file of this claim: texts on the language of the program and on its functions. No condition. -/
import Derived.Test.YtdilaemengjipaaGreatDoorCA4
import Derived.Test.YtdilaemengjipaaGreatDoorCA1
import Derived.Deep.DeepCutAuto
import Derived.StillTailTactics
import Derived.Deep.RegionHeld3
import Derived.Shelf.Strings.Builder1
set_option linter.unusedVariables false
set_option linter.unusedSimpArgs false
set_option linter.unusedSectionVars false
open Go.Value renaming int->YM
open Go.IntKind renaming i64->YN
open Go renaming undef->YO
open Option renaming some->YH,none->YI
open Bool renaming true->YJ,false->YK
open Decidable renaming decide->YL
open Go.Proofs.Tryz
set_option maxHeartbeats 40000000
namespace Go.Proofs.YtdilaemengjipaaGreatDoor
set_option maxRecDepth 10000
open Go.RowKit
variable {KR:PV->Prop}{a a2 b b2 c c2 d d2:Int}{n:Nat}{v:Value}{w:World}
def bp(n:aj)(t:av):Option Int:=
 (aB n.aA t.bD).bind λy1=>
 YH (aI ((aI (t.day*1440))+y1.start))
instance (n:aj)(t:av):CT prog (bp n t):=⟨230,[.ag (bA n),.ag (aW t)],[],λr=>vi r,λr=>[],cw (bp.eq_1 ..) func230 ntmps230 results230⟩
def bl(n:aj)(t:av):Option Int:=
 (bp n t).bind λy1=>
 (aB n.aA t.bD).bind λy2=>
 YH (aI (y1+y2.mP))
instance (n:aj)(t:av):CT prog (bl n t):=⟨282,[.ag (bA n),.ag (aW t)],[],λr=>vi r,λr=>[],cw (bl.eq_1 ..) func282 ntmps282 results282⟩
def sD(l:List av)(t:av)(s0:Int):Option (Int⊕(Unit⊕Bool)):=
 cond (YL (s0<(l.length:Int)))
 ((aB l s0).bind λy1=>
 cond (YL (y1=t))
 (YH (.inr (.inr YJ)))
 (YH (.inl (aI (s0+1)))))
 (YH (.inr (.inl ())))
instance (l:List av)(t:av):bo (sD l t):=⟨λs0=>(.sl (l.map aW)::.un::.un::.be 0 0 0::.un::vi s0::(U 12 [])),λs0=>[YH ⟨.of 46,2,[[vi t.bD,vi t.day]]⟩]⟩
def dp(l:List av)(t:av):Option Bool:=
 (aD (sD l t) NN 0).bind (bk (λo0=>
 YH YK) (λr=>YH r))
instance (l:List av)(t:av):CT prog (dp l t):=⟨215,[.sl (l.map aW),.ag (aW t)],[],λr=>vb r,λr=>[],cw (dp.eq_1 ..) func215 ntmps215 results215⟩
def cb(n:aj)(x:az)(now:Int):Option Bool:=
 cond (YL (0<x.aN))
 ((aB x.aG (aI (x.aN-1))).bind λy1=>
 (aB n.aA y1.bD).bind λy2=>
 (aB x.aG (aI (x.aN-1))).bind λy3=>
 (bl n y3).bind λy4=>
 cond (YL (now<y4))
 (YH YK)
 (cond (YL (x.state=1))
 (cond (YL (x.place=y2.a8))
 (cond (!decide (y2.a8=x.a8))
 (cond (YL (x.bB=0))
 (cond (YL (x.aN=(x.aG.length:Int)))
 (YH YJ)
 ((aB x.aG x.aN).bind λy5=>
 (bp n y5).bind λy6=>
 YH (YL (now<y6))))
 (YH YK))
 (YH YK))
 (YH YK))
 (cond (YL (x.state=2))
 (cond (YL (x.place=⟨#[]⟩))
 (cond (YL (x.bB=0))
 (cond (YL (x.aN<(x.aG.length:Int)))
 ((aB x.aG x.aN).bind λy7=>
 (bp n y7).bind λy8=>
 cond (YL (y8<=now))
 ((aB x.aG x.aN).bind λy9=>
 (bl n y9).bind λdL=>
 YH (YL (now<dL)))
 (YH YK))
 (YH YK))
 (YH YK))
 (YH YK))
 (cond (YL (x.state=3))
 (cond (YL (x.place=x.a8))
 (cond (YL (y2.a8=x.a8))
 (cond (YL (x.aN=(x.aG.length:Int)))
 (cond (YL (0<x.aN))
 ((aB x.aG (aI (x.aN-1))).bind λji=>
 (bl n ji).bind λoX=>
 YH (YL (x.bB=oX)))
 (YH YK))
 (YH YK))
 (YH YK))
 (YH YK))
 (YH YK)))))
 (cond (YL (x.state=1))
 (cond (YL (x.place=x.au))
 (cond (!decide (x.au=x.a8))
 (cond (YL (x.bB=0))
 (cond (YL (x.aN=(x.aG.length:Int)))
 (YH YJ)
 ((aB x.aG x.aN).bind λmf=>
 (bp n mf).bind λkX=>
 YH (YL (now<kX))))
 (YH YK))
 (YH YK))
 (YH YK))
 (cond (YL (x.state=2))
 (cond (YL (x.place=⟨#[]⟩))
 (cond (YL (x.bB=0))
 (cond (YL (x.aN<(x.aG.length:Int)))
 ((aB x.aG x.aN).bind λpg=>
 (bp n pg).bind λmu=>
 cond (YL (mu<=now))
 ((aB x.aG x.aN).bind λrn=>
 (bl n rn).bind λsi=>
 YH (YL (now<si)))
 (YH YK))
 (YH YK))
 (YH YK))
 (YH YK))
 (cond (YL (x.state=3))
 (cond (YL (x.place=x.a8))
 (cond (YL (x.au=x.a8))
 (cond (YL (x.aN=(x.aG.length:Int)))
 (cond (YL (0<x.aN))
 ((aB x.aG (aI (x.aN-1))).bind λvH=>
 (bl n vH).bind λAJ=>
 YH (YL (x.bB=AJ)))
 (YH YK))
 (YH YK))
 (YH YK))
 (YH YK))
 (YH YK))))
instance (n:aj)(x:az)(now:Int):CT prog (cb n x now):=⟨285,[.ag (bA n),.ag (ba x),vi now],[],λr=>vb r,λr=>[],cw (cb.eq_1 ..) func285 ntmps285 results285⟩
def n7(l:List ByteArray)(p:ByteArray)(s0:Int):Option (Int⊕(Unit⊕Int)):=
 cond (YL (s0<(l.length:Int)))
 ((aB l s0).bind λy1=>
 cond (YL (y1=p))
 (YH (.inr (.inr s0)))
 (YH (.inl (aI (s0+1)))))
 (YH (.inr (.inl ())))
instance (l:List ByteArray)(p:ByteArray):bo (n7 l p):=⟨λs0=>(.sl (l.map jK)::vs p::(U 3 (vi s0::(U 13 [])))),λs0=>[]⟩
def ca(l:List ByteArray)(p:ByteArray):Option Int:=
 (aD (n7 l p) NN 0).bind (bk (λo0=>
 YH (-1)) (λr=>YH r))
instance (l:List ByteArray)(p:ByteArray):CT prog (ca l p):=⟨281,[.sl (l.map jK),vs p],[],λr=>vi r,λr=>[],cw (ca.eq_1 ..) func281 ntmps281 results281⟩
theorem HK{a a2 b b2:ByteArray}:BS prog (n+3) 78 [vs a,vs b] [vs a2,vs b2]=YH (YL ((⟨a,b⟩:bI)=(⟨a2,b2⟩:bI))):=by
 simp only[BS,Tryz.underlying78,ZaI,Tryz.underlying9,Program.fieldsOf,go_sem];simp[ZaI,tq9,baB]
 try rfl
@[go_sem] theorem ZdF{a a2 b b2:ByteArray}:uP prog .eql 78 [vs a,vs b] [vs a2,vs b2] KR=KR (vb (YL ((⟨a,b⟩:bI)=(⟨a2,b2⟩:bI)))):=by unfold uP;rw[show(10000:Nat)=9997+3 from rfl,HK,Tryz.underlying78];simp only[ZaI,true_and]
@[go_sem] theorem Zew{a a2 b b2:ByteArray}:uP prog .neq 78 [vs a,vs b] [vs a2,vs b2] KR=KR (vb (!decide ((⟨a,b⟩:bI)=(⟨a2,b2⟩:bI)))):=by unfold uP;rw[show(10000:Nat)=9997+3 from rfl,HK,Tryz.underlying78];simp only[ZaI,true_and]
theorem HG:BS prog (n+3) 81 [vi a,vi b,vi c,vi d] [vi a2,vi b2,vi c2,vi d2]=YH (YL ((⟨a,b,c,d⟩:bL)=(⟨a2,b2,c2,d2⟩:bL))):=by
 simp only[BS,Tryz.underlying3,Tryz.underlying81,ZaJ,Program.fieldsOf,go_sem];simp[ZaJ,tq3];rfl
@[go_sem] theorem ZdC:uP prog .eql 81 [vi a,vi b,vi c,vi d] [vi a2,vi b2,vi c2,vi d2] KR=KR (vb (YL ((⟨a,b,c,d⟩:bL)=(⟨a2,b2,c2,d2⟩:bL)))):=by unfold uP;rw[show(10000:Nat)=9997+3 from rfl,HG,Tryz.underlying81];simp only[ZaJ,true_and]
@[go_sem] theorem Zet:uP prog .neq 81 [vi a,vi b,vi c,vi d] [vi a2,vi b2,vi c2,vi d2] KR=KR (vb (!decide ((⟨a,b,c,d⟩:bL)=(⟨a2,b2,c2,d2⟩:bL)))):=by unfold uP;rw[show(10000:Nat)=9997+3 from rfl,HG,Tryz.underlying81];simp only[ZaJ,true_and]
theorem HE:BS prog (n+3) 85 [vi a,vi b,vi c,vi d] [vi a2,vi b2,vi c2,vi d2]=YH (YL ((⟨a,b,c,d⟩:aU)=(⟨a2,b2,c2,d2⟩:aU))):=by
 simp only[BS,Tryz.underlying3,Tryz.underlying85,ZaK,Program.fieldsOf,go_sem];simp[ZaK,tq3];rfl
@[go_sem] theorem ZdB:uP prog .eql 85 [vi a,vi b,vi c,vi d] [vi a2,vi b2,vi c2,vi d2] KR=KR (vb (YL ((⟨a,b,c,d⟩:aU)=(⟨a2,b2,c2,d2⟩:aU)))):=by unfold uP;rw[show(10000:Nat)=9997+3 from rfl,HE,Tryz.underlying85];simp only[ZaK,true_and]
@[go_sem] theorem Zes:uP prog .neq 85 [vi a,vi b,vi c,vi d] [vi a2,vi b2,vi c2,vi d2] KR=KR (vb (!decide ((⟨a,b,c,d⟩:aU)=(⟨a2,b2,c2,d2⟩:aU)))):=by unfold uP;rw[show(10000:Nat)=9997+3 from rfl,HE,Tryz.underlying85];simp only[ZaK,true_and]
def PS(w:World):Type:={w':World // Up w w'}
def PS.val{w:World}(x:PS w):World:=x.1
theorem PS.up(x:PS w):Up w x.val:=x.2
theorem PS.cell{w:World}{b o:Nat}{v:Value}(h:w.cell? ⟨b,o,YI⟩=YH v):∀x:PS w,x.val.cell? ⟨b,o,YI⟩=YH v:=
 λx=>(x.2.cell (p:=⟨b,o,YI⟩) (World.block_lt_of_cell? w ⟨b,o,YI⟩ h)).trans h
theorem BE{w w':World}{b o:Nat}(h:w.cell? ⟨b,o,YI⟩=YH v)(hu:Up w w'):w'.cell? ⟨b,o,YI⟩=YH v:=PS.cell h ⟨w',hu⟩
theorem PS.rd{α:Type}[eQ α]{A:Option Addr}{xs:List α}(h:Rd w w.heap.size A xs)(x:PS w):Rd x.val x.val.heap.size A xs:=h.up x.2
theorem PS.call{P:Program}{f:FuncId}{args:Array Value}{x:PS w}(h:Calls P f args x.val λe w'=>e=.returned v/\Up x.val w'):
 Calls P f args x.val λe w''=>e=.returned v/\∃y:PS w,w''=y.val:=
 h.mono λ_ v2 ⟨he,hu⟩=>⟨he,⟨v2,Up.step hu x.2⟩,rfl⟩
end Go.Proofs.YtdilaemengjipaaGreatDoor
namespace Go.Proofs.YtdilaemengjipaaGreatDoor
set_option maxRecDepth 10000
open Go.RowKit Go.Shelf
set_option maxRecDepth 100000
abbrev TB:Nat:=108
theorem Qs(b:Nat)(w:World)(h0:w.cell? ⟨b,0,YI⟩=YH (.pointer (YH ⟨b,0,YI⟩))):
 Calls prog 116 #[.pointer (YH ⟨b,0,YI⟩)] w λe w'=>e=.returned (.tuple #[])/\w'=w:=by
 have X:=Tryz.lu;obtain⟨j,hj,_⟩:=Option.map_eq_some_iff.1 X.sizeBuilder
 go_enter func116,ntmps116
 go_wp2
 rw[Lib.run_neq_ptr_same w _ Tryz.underlying106 hj]
 go_wp2
 go_end0
 exact⟨rfl,rfl⟩
theorem NG(b:Nat)(w:World)(h0:w.cell? ⟨b,0,YI⟩=YH (.pointer YI))(hsh:w.shape? b=YH (TB,2))(hfz:w.frozen? ⟨b,0,YI⟩=YK):
 Calls prog 116 #[.pointer (YH ⟨b,0,YI⟩)] w λe w'=>e=.returned (.tuple #[])/\w'=w.setCell ⟨b,0,YI⟩ (.pointer (YH ⟨b,0,YI⟩)):=by
 have X:=Tryz.lu;obtain⟨j,hj,hjs⟩:=Option.map_eq_some_iff.1 X.sizeBuilder
 go_enter func116,ntmps116
 go_wp2
 rw[Lib.run_to_unsafe w ⟨b,0,YI⟩ Tryz.underlying106 Tryz.underlying225 hj (by rw[hjs];decide) hsh (Nat.zero_lt_succ 1)]
 simp only[Result.andThen];rw[Oper.upon_value]
 go_wp2
 rw[run_callFunc_extern func185 Yb Yb Yb (e:=Extern.AbiNoEscape.same) Yb];rw[Lib.run_noEscape];simp only[Result.andThen];rw[Oper.upon_value]
 go_wp2
 rw[Lib.run_from_unsafe w ⟨b,0,YI⟩ Tryz.underlying225 Tryz.underlying106 hj hsh X.toX72.liesBuilder];simp only[Result.andThen];rw[Oper.upon_value]
 go_wp2
 go_end0
 exact⟨rfl,rfl⟩
theorem Hc(B b:Nat)(bs:List Value)(w:World)(h:Lib.IsBuilder TB 5 B b bs w):
 Calls prog 116 #[.pointer (YH ⟨b,0,YI⟩)] w λe w'=>e=.returned (.tuple #[])/\(Lib.BuilderAt TB 5 B b (.pointer (YH ⟨b,0,YI⟩)) bs w'/\Below B w w'):=by
 rcases h with h|h
 ·refine(NG b w h.cell0 h.shape h.frozen0).mono ?_
  rintro e w' ⟨rfl,rfl⟩;exact⟨rfl,h.used _,(Below.refl B w).setCell (p:=⟨b,0,YI⟩) h.1 _⟩
 ·refine(Qs b w h.cell0).mono ?_
  rintro e w' ⟨rfl,rfl⟩;exact⟨rfl,h,Below.refl B _⟩
theorem Qr(B b:Nat)(bs:List Value)(c:Int)(w:World)(h:Lib.IsBuilder TB 5 B b bs w)(hlen:bs.length+1<=140737488355328)(hBw:B<=w.heap.size):
 Calls prog 261 #[.pointer (YH ⟨b,0,YI⟩),.int .u8 c] w λe w'=>e=.returned .nilIface/\(Lib.BuilderAt TB 5 B b (.pointer (YH ⟨b,0,YI⟩)) (bs++[.int .u8 c]) w'/\Below B w w'):=by
 have X:=Tryz.lu;obtain⟨i0,hi,hz0,J1,Oq⟩:=info_parts X.infoByte
 go_enter func261,ntmps261
 go_wp2_with (go_at_call 116;refine(Hc B b bs _ h).mono ?_)
 rintro e w1 ⟨rfl,h1,pk⟩;obtain⟨hB,v,xq,oM,iq⟩:=h1;have c0:w1.cell? ⟨b,0,YI⟩=YH (.pointer (YH ⟨b,0,YI⟩)):=by rw[Lib.cell_of_heap xq];rfl
 have c1:w1.cell? ⟨b,1,YI⟩=YH v:=by rw[Lib.cell_of_heap xq];rfl
 go_wp2_with (at_builtin;refine wpList_append_own _ rfl _ _ 22 rfl B 5 i0 (.int .u8 0) 1 1 Tryz.underlying22 hi hz0 J1 Oq rfl (by decide) _ _ _ rfl (oM.alloc _) ⟨w1.heap.size,0,YI⟩ 1 1 [.int .u8 c] rfl rfl ?c1 ?c2 ?c3 ?c4 ?c5 ?_)
 case c1=>
  intro j u hj
  match j,hj with
  |0,hj=>simp at hj;subst hj;simp[Addr.add]
 case c2=>intro u hu;simp at hu;subst hu;rfl
 case c3=>unfold maxLen;omega
 case c4=>omega
 case c5=>have:=pk.size;simp;omega
 intro v' w2 xV Ii _;have bU:b<w1.heap.size:=by
  rcases Nat.lt_or_ge b w1.heap.size with h'|h'
  ·exact h'
  ·simp[Array.getElem?_eq_none h']at xq
 have uI:w2.heap[b]?=YH (.cells #[.pointer (YH ⟨b,0,YI⟩),v] TB (0,0)):=by
  rw[Ii.block b Yi (λe=>iq e.symm),Lib.alloc_old w1 _ b bU]
  exact xq
 have d0:w2.cell? ⟨b,0,YI⟩=YH (.pointer (YH ⟨b,0,YI⟩)):=by rw[Lib.cell_of_heap uI];rfl
 have d1:w2.cell? ⟨b,1,YI⟩=YH v:=by rw[Lib.cell_of_heap uI];rfl
 have f1:w2.frozen? ⟨b,1,YI⟩=false:=Lib.frozen_of_heap uI 1;obtain⟨g,cap,rfl⟩:∃g cap,v'=.slice (YH ⟨g,0,YI⟩) (bs.length+1) cap:=by
  rcases xV.2 with⟨_,h0⟩ |⟨g,cap,cur,hv,_⟩
  ·omega
  ·exact⟨g,cap,hv⟩
 go_wp2
 go_ret
 refine⟨rfl,?_,?_⟩
 ·exact Lib.BuilderAt.put (T:=TB) (e:=5) hB uI (bs':=bs++[.int .u8 c]) (by simpa using xV) X.neB5
 ·exact((pk.alloc (by have:=pk.size;omega) _).grown Ii (by have:=pk.size;simp;omega) (λk hk=>(oM.lt k hk).1)).setCell (p:=⟨b,1,YI⟩) hB _
theorem T6(B b:Nat)(bs:List Value)(s:ByteArray)(w:World)(h:Lib.IsBuilder TB 5 B b bs w)(hlen:bs.length+s.size<=140737488355328)(hBw:B<=w.heap.size):
 Calls prog 57 #[.pointer (YH ⟨b,0,YI⟩),.string s] w λe w'=>e=.returned (.tuple #[YM YN s.size,.nilIface])/\(Lib.BuilderAt TB 5 B b (.pointer (YH ⟨b,0,YI⟩)) (bs++Lib.strCells s) w'/\Below B w w'):=by
 have X:=Tryz.lu;obtain⟨i0,hi,hz0,J1,Oq⟩:=info_parts X.infoByte
 go_enter func57,ntmps57
 go_wp2_with (go_at_call 116;refine(Hc B b bs _ h).mono ?_)
 rintro e w1 ⟨rfl,h1,pk⟩;obtain⟨hB,v,xq,oM,iq⟩:=h1;have c0:w1.cell? ⟨b,0,YI⟩=YH (.pointer (YH ⟨b,0,YI⟩)):=by rw[Lib.cell_of_heap xq];rfl
 have c1:w1.cell? ⟨b,1,YI⟩=YH v:=by rw[Lib.cell_of_heap xq];rfl
 go_wp2_with (at_builtin;refine Lib.wpList_append_own_string _ rfl _ _ 22 9 rfl B 5 i0 Tryz.underlying22 Tryz.underlying9 hi hz0 J1 Oq _ _ _ rfl oM s rfl ?c3 ?c4 ?c5 ?_)
 case c3=>unfold maxLen;omega
 case c4=>omega
 case c5=>have:=pk.size;omega
 intro v' w2 xV Ii _;have bU:b<w1.heap.size:=by
  rcases Nat.lt_or_ge b w1.heap.size with h'|h'
  ·exact h'
  ·simp[Array.getElem?_eq_none h']at xq
 have uI:w2.heap[b]?=YH (.cells #[.pointer (YH ⟨b,0,YI⟩),v] TB (0,0)):=by
  rw[Ii.block b bU (λe=>iq e.symm)]
  exact xq
 have d0:w2.cell? ⟨b,0,YI⟩=YH (.pointer (YH ⟨b,0,YI⟩)):=by rw[Lib.cell_of_heap uI];rfl
 have d1:w2.cell? ⟨b,1,YI⟩=YH v:=by rw[Lib.cell_of_heap uI];rfl
 have f1:w2.frozen? ⟨b,1,YI⟩=false:=Lib.frozen_of_heap uI 1;obtain⟨ao,n',cap,rfl⟩:∃ao n' cap,v'=.slice ao n' cap:=by
  rcases xV.2 with⟨hv,_⟩ |⟨g,cap,cur,hv,_⟩
  ·exact⟨_,_,_,hv⟩
  ·exact⟨_,_,_,hv⟩
 go_wp2
 go_ret2
 refine⟨rfl,?_,?_⟩
 ·exact Lib.BuilderAt.put (T:=TB) (e:=5) hB uI (bs':=bs++Lib.strCells s) (by simpa[Lib.strCells_length]using xV) X.neB5
 ·exact(pk.grown Ii (by have:=pk.size;omega) (λk hk=>(oM.lt k hk).1)).setCell (p:=⟨b,1,YI⟩) hB _
end Go.Proofs.YtdilaemengjipaaGreatDoor
