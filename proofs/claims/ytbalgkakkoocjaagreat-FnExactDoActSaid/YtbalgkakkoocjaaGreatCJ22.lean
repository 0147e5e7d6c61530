/- A part of the proof of the statement in the last file of this claim: texts on the language of the program and on its functions. No condition. -/
import Derived.Test.YtbalgkakkoocjaaGreatCJ15
import Derived.Test.YtbalgkakkoocjaaGreatCJ1
set_option linter.unusedVariables false
set_option linter.unusedSimpArgs false
set_option linter.unusedSectionVars false
open Go.Value renaming int->ZF
open Go.IntKind renaming i64->ZG
open Go renaming undef->ZH
open Option renaming some->ZA,none->ZB
open Bool renaming true->ZC,false->ZD
open Decidable renaming decide->ZE
open Go.Proofs.Tryz
set_option maxHeartbeats 40000000
namespace Go.Proofs.YtbalgkakkoocjaaGreat
open Option.some renaming inj->VG
set_option maxRecDepth 10000
open Go.RowKit
set_option maxRecDepth 100000
variable {S:Nat->Prop}
theorem Fa{w:World}{E:Env}{p:PV}{u:Value}(hp:cN w E p u):∀(i:Nat) (r:PV),[p][i]?=ZA r->∃x,#[u][i]?=ZA x/\cN w E r x:=by
 intro i r hr
 match i,hr with
 |0,hr=>obtain rfl:=VG hr;exact⟨_,rfl,hp⟩
 |n+1,hr=>simp at hr
structure Cq(w:World)(b:Nat)(v0 v1 v2 v3 v4 v5 v6 v7 v8 v9 v10 v11 v12:Value):Prop where
 lt:b<w.heap.size
 c0:w.cell? ⟨b,0,ZB⟩=ZA v0
 c1:w.cell? ⟨b,1,ZB⟩=ZA v1
 c2:w.cell? ⟨b,2,ZB⟩=ZA v2
 c3:w.cell? ⟨b,3,ZB⟩=ZA v3
 c4:w.cell? ⟨b,4,ZB⟩=ZA v4
 c5:w.cell? ⟨b,5,ZB⟩=ZA v5
 c6:w.cell? ⟨b,6,ZB⟩=ZA v6
 c7:w.cell? ⟨b,7,ZB⟩=ZA v7
 c8:w.cell? ⟨b,8,ZB⟩=ZA v8
 c9:w.cell? ⟨b,9,ZB⟩=ZA v9
 OK:w.cell? ⟨b,10,ZB⟩=ZA v10
 OL:w.cell? ⟨b,11,ZB⟩=ZA v11
 OM:w.cell? ⟨b,12,ZB⟩=ZA v12
section
variable {w a:World} {q:Nat} {T:TypeId} {v0 v1 v2 v3 v4 v5 v6 v7 v8 v9 v10 v11 v12:Value}
theorem Cq.row(hq:q<w.heap.size)(h:w.heap[q]?=ZA (.cells #[v0,v1,v2,v3,v4,v5,v6,v7,v8,v9,v10,v11,v12] T (0,0))):Cq w q v0 v1 v2 v3 v4 v5 v6 v7 v8 v9 v10 v11 v12:=by
 refine⟨hq,?_,?_,?_,?_,?_,?_,?_,?_,?_,?_,?_,?_,?_⟩<;>(rw[cell_of_row _ _ _ _ _ _ h];rfl)
theorem Cq.up(h:Cq w q v0 v1 v2 v3 v4 v5 v6 v7 v8 v9 v10 v11 v12)(hu:Up w a):Cq a q v0 v1 v2 v3 v4 v5 v6 v7 v8 v9 v10 v11 v12:=
 ⟨Nat.lt_of_lt_of_le h.lt hu.size,gK hu h.c0,gK hu h.c1,gK hu h.c2,gK hu h.c3,gK hu h.c4,gK hu h.c5,gK hu h.c6,gK hu h.c7,gK hu h.c8,gK hu h.c9,gK hu h.OK,gK hu h.OL,gK hu h.OM⟩
theorem Cq.zZ{O:Nat->Prop}(h:Cq w q v0 v1 v2 v3 v4 v5 v6 v7 v8 v9 v10 v11 v12)(hu:mA O w a)(hO:¬O q):Cq a q v0 v1 v2 v3 v4 v5 v6 v7 v8 v9 v10 v11 v12:=
 ⟨Nat.lt_of_lt_of_le h.lt hu.size,bC hu h.c0 hO,bC hu h.c1 hO,bC hu h.c2 hO,bC hu h.c3 hO,bC hu h.c4 hO,bC hu h.c5 hO,bC hu h.c6 hO,bC hu h.c7 hO,bC hu h.c8 hO,bC hu h.c9 hO,bC hu h.OK hO,bC hu h.OL hO,bC hu h.OM hO⟩
theorem Cq.range(h:Cq w q v0 v1 v2 v3 v4 v5 v6 v7 v8 v9 v10 v11 v12):w.rangeAt q 0 [v0,v1,v2,v3,v4,v5,v6,v7,v8,v9,v10,v11,v12]:=by
 intro j v hj;rw[Nat.zero_add]
 match j,hj with
 |0,hj=>obtain rfl:=VG hj;exact h.c0
 |1,hj=>obtain rfl:=VG hj;exact h.c1
 |2,hj=>obtain rfl:=VG hj;exact h.c2
 |3,hj=>obtain rfl:=VG hj;exact h.c3
 |4,hj=>obtain rfl:=VG hj;exact h.c4
 |5,hj=>obtain rfl:=VG hj;exact h.c5
 |6,hj=>obtain rfl:=VG hj;exact h.c6
 |7,hj=>obtain rfl:=VG hj;exact h.c7
 |8,hj=>obtain rfl:=VG hj;exact h.c8
 |9,hj=>obtain rfl:=VG hj;exact h.c9
 |10,hj=>obtain rfl:=VG hj;exact h.OK
 |11,hj=>obtain rfl:=VG hj;exact h.OL
 |12,hj=>obtain rfl:=VG hj;exact h.OM
 |n+13,hj=>simp at hj
theorem Cq.load(h:Cq w q v0 v1 v2 v3 v4 v5 v6 v7 v8 v9 v10 v11 v12):(loadCellsFrom ⟨q,0,ZB⟩ 0 13 #[]).run prog w=.ok #[v0,v1,v2,v3,v4,v5,v6,v7,v8,v9,v10,v11,v12] w:=by
 have:=run_loadCells_list (P:=prog) w ⟨q,0,ZB⟩ [v0,v1,v2,v3,v4,v5,v6,v7,v8,v9,v10,v11,v12] (λj v hv=>by rw[Addr.add_mid];exact h.range j v hv)
 exact this
end
structure iL(w a:World)(t:ZJ)(B:cL)(u:Value):Prop where
 row:RB a 3 1 (t.av.bb.map aI) B
 val:u=B.sv
 new:B.z=ZD->w.heap.size<=B.b
section
variable {w w0 a b:World} {t:ZJ} {B:cL} {u:Value} {O:Nat->Prop}
theorem iL.zZ(h:iL w a t B u)(hu:mA O a b)(hO:∀q,xT B q->¬O q):iL w b t B u:={ h with row:=h.row.cx hu λhz=>hO _ ⟨hz,rfl⟩}
theorem iL.up(h:iL w a t B u)(hu:Up a b):iL w b t B u:=h.zZ (mA.of hu) λ_ _ h=>h
theorem iL.base(h:iL w a t B u)(hl:w0.heap.size<=w.heap.size):iL w0 a t B u:={ h with new:=λhz=>Nat.le_trans hl (h.new hz)}
theorem iL.lt(h:iL w a t B u){q:Nat}(hq:xT B q):q<a.heap.size:=by obtain⟨hz,rfl⟩:=hq;exact RB.lt h.row hz
theorem iL.ge(h:iL w a t B u){q:Nat}(hq:xT B q):w.heap.size<=q:=by obtain⟨hz,rfl⟩:=hq;exact h.new hz
theorem iL.vu(h:iL w a t B u):cf a (xT B) (.sl (t.av.bb.map aI)) u:=by
 rw[h.val];exact RB.xC h.row (λcs gl p hp=>pH gl hp) λhz=>⟨hz,rfl⟩
theorem iL.rep(h:iL w a t B u):cf a (dV a) (.sl (t.av.bb.map aI)) u:=h.vu.ext (λb hb=>h.lt hb) λ_ _ _=>rfl
end
theorem uc{w:World}{t:ZJ}{u:Value}(h:cf w S (.sl (t.av.bb.map aI)) u):cN w (E1 S (λ_=>ZB) 0) (.ag (ZK t)) (.agg #[ZF ZG t.kind,ZF ZG t.av.label.ax,ZF ZG t.av.label.bZ,.string t.av.label.aX,.string t.av.ar,ZF ZG t.av.ab,u,ZF ZG t.av.value,ZF ZG t.order,ZF ZG t.bh,ZF ZG t.bn,ZF ZG t.aV.bG,ZF ZG t.aV.day]):=by
 refine .ag _ _ rfl (λj y hj=>?_) (λj p y hp hy=>?_)
 ·match j,hj with
  |0,hj=>obtain rfl:=VG hj;rfl
  |1,hj=>obtain rfl:=VG hj;rfl
  |2,hj=>obtain rfl:=VG hj;rfl
  |3,hj=>obtain rfl:=VG hj;rfl
  |4,hj=>obtain rfl:=VG hj;rfl
  |5,hj=>obtain rfl:=VG hj;rfl
  |6,hj=>obtain rfl:=VG hj;exact tj h
  |7,hj=>obtain rfl:=VG hj;rfl
  |8,hj=>obtain rfl:=VG hj;rfl
  |9,hj=>obtain rfl:=VG hj;rfl
  |10,hj=>obtain rfl:=VG hj;rfl
  |11,hj=>obtain rfl:=VG hj;rfl
  |12,hj=>obtain rfl:=VG hj;rfl
  |n+13,hj=>simp at hj
 ·match j,hp,hy with
  |0,hp,hy=>obtain rfl:=VG hp;obtain rfl:=VG hy;exact .c (.v _ rfl)
  |1,hp,hy=>obtain rfl:=VG hp;obtain rfl:=VG hy;exact .c (.v _ rfl)
  |2,hp,hy=>obtain rfl:=VG hp;obtain rfl:=VG hy;exact .c (.v _ rfl)
  |3,hp,hy=>obtain rfl:=VG hp;obtain rfl:=VG hy;exact .c (.v _ rfl)
  |4,hp,hy=>obtain rfl:=VG hp;obtain rfl:=VG hy;exact .c (.v _ rfl)
  |5,hp,hy=>obtain rfl:=VG hp;obtain rfl:=VG hy;exact .c (.v _ rfl)
  |6,hp,hy=>obtain rfl:=VG hp;obtain rfl:=VG hy;exact .c h
  |7,hp,hy=>obtain rfl:=VG hp;obtain rfl:=VG hy;exact .c (.v _ rfl)
  |8,hp,hy=>obtain rfl:=VG hp;obtain rfl:=VG hy;exact .c (.v _ rfl)
  |9,hp,hy=>obtain rfl:=VG hp;obtain rfl:=VG hy;exact .c (.v _ rfl)
  |10,hp,hy=>obtain rfl:=VG hp;obtain rfl:=VG hy;exact .c (.v _ rfl)
  |11,hp,hy=>obtain rfl:=VG hp;obtain rfl:=VG hy;exact .c (.v _ rfl)
  |12,hp,hy=>obtain rfl:=VG hp;obtain rfl:=VG hy;exact .c (.v _ rfl)
  |n+13,hp,hy=>simp[ZK]at hp
theorem actR_of{w:World}{t:ZJ}{cs:Array Value}(h:Reads w (ZK t) cs.toList):∃u,cs=#[ZF ZG t.kind,ZF ZG t.av.label.ax,ZF ZG t.av.label.bZ,.string t.av.label.aX,.string t.av.ar,ZF ZG t.av.ab,u,ZF ZG t.av.value,ZF ZG t.order,ZF ZG t.bh,ZF ZG t.bn,ZF ZG t.aV.bG,ZF ZG t.aV.day]/\cf w (dV w) (.sl (t.av.bb.map aI)) u:=by
 obtain⟨cs⟩:=cs;have hl:=h.1
 match cs,hl,h with
 | [a0,a1,a2,a3,a4,a5,a6,a7,a8,a9,a10,a11,a12],_,h=>
  have h0:=(h.2 0 _ a0 rfl rfl).2;have h1:=(h.2 1 _ a1 rfl rfl).2;have h2:=(h.2 2 _ a2 rfl rfl).2;have h3:=(h.2 3 _ a3 rfl rfl).2;have h4:=(h.2 4 _ a4 rfl rfl).2;have h5:=(h.2 5 _ a5 rfl rfl).2;have h7:=(h.2 7 _ a7 rfl rfl).2;have h8:=(h.2 8 _ a8 rfl rfl).2;have h9:=(h.2 9 _ a9 rfl rfl).2;have Ge:=(h.2 10 _ a10 rfl rfl).2;have K0:=(h.2 11 _ a11 rfl rfl).2;have K1:=(h.2 12 _ a12 rfl rfl).2
  cases h0;cases h1;cases h2;cases h3;cases h4;cases h5;cases h7;cases h8;cases h9;cases Ge;cases K0;cases K1
  exact⟨a6,rfl,(h.2 6 _ a6 rfl rfl).2⟩
section
variable {P:Program} {f:FuncId} {args:List PV} {t:ZJ}
theorem cq.ZgP(h:cq P f args [] (.ag [vi t.kind,vi t.av.label.ax,vi t.av.label.bZ,vs t.av.label.aX,vs t.av.ar,vi t.av.ab,.ms 0,vi t.av.value,vi t.order,vi t.bh,vi t.bn,vi t.aV.bG,vi t.aV.day]) [ZA ⟨.of 3,1,t.av.bb.map aI⟩]){w:World}(hS:∀q,S q->q<w.heap.size){vs:Array Value}(hl:vs.size=args.length)(ha:∀(i:Nat) (p:PV),args[i]?=ZA p->∃x,vs[i]?=ZA x/\cN w (E1 S (λ_=>ZB) 0) p x):
 Calls P f vs w λe a=>∃(B:cL) (X:Option Addr) (c:Nat),e=.returned (.agg #[ZF ZG t.kind,ZF ZG t.av.label.ax,ZF ZG t.av.label.bZ,.string t.av.label.aX,.string t.av.ar,ZF ZG t.av.ab,.slice X t.av.bb.length c,ZF ZG t.av.value,ZF ZG t.order,ZF ZG t.bh,ZF ZG t.bn,ZF ZG t.aV.bG,ZF ZG t.aV.day])/\Up w a/\iL w a t B (.slice X t.av.bb.length c):=by
 refine(h S (λ_=>ZB) w vs (λ_ _=>False) (ZnH hS) hl ha).mono ?_
 rintro e a ⟨v,E,rfl,hk,_,_,_,hr⟩;clear hl ha;clear vs;obtain⟨zs,rfl,hl,h1,hv⟩:=hr.pb;have hvl:zs.size=13:=hl;have aO:∀{j:Nat} {p:PV},j<13->[vi t.kind,vi t.av.label.ax,vi t.av.label.bZ,vs t.av.label.aX,vs t.av.ar,vi t.av.ab,.ms 0,vi t.av.value,vi t.order,vi t.bh,vi t.bn,vi t.aV.bG,vi t.aV.day][j]?=ZA p->∃x,zs[j]?=ZA x/\cN a E p x:=λ{j p} hj hp=>⟨zs[j]' YG,Array.getElem?_eq_getElem _,hv j p _ hp (Array.getElem?_eq_getElem _)⟩
 obtain⟨x0,y0,z0⟩:=aO (j:=0) YG rfl;obtain⟨x1,y1,z1⟩:=aO (j:=1) YG rfl;obtain⟨x2,y2,z2⟩:=aO (j:=2) YG rfl;obtain⟨x3,y3,z3⟩:=aO (j:=3) YG rfl;obtain⟨x4,y4,z4⟩:=aO (j:=4) YG rfl;obtain⟨x5,y5,z5⟩:=aO (j:=5) YG rfl;obtain⟨x6,y6,z6⟩:=aO (j:=6) YG rfl;obtain⟨x7,y7,z7⟩:=aO (j:=7) YG rfl;obtain⟨x8,y8,z8⟩:=aO (j:=8) YG rfl;obtain⟨x9,y9,z9⟩:=aO (j:=9) YG rfl;obtain⟨x10,eE,UJ⟩:=aO (j:=10) YG rfl;obtain⟨x11,oq,z11⟩:=aO (j:=11) YG rfl;obtain⟨x12,sj,z12⟩:=aO (j:=12) YG rfl;have hvs:zs=#[x0,x1,x2,x3,x4,x5,x6,x7,x8,x9,x10,x11,x12]:=by
  apply Array.ext (by simp[hvl])
  intro i hi h3;have e:=λ{j:Nat} {y:Value} (h:zs[j]?=ZA y)=>(Array.getElem?_eq_some_iff.1 h).2
  match i,hi with
  |0,_=>simpa using e y0
  |1,_=>simpa using e y1
  |2,_=>simpa using e y2
  |3,_=>simpa using e y3
  |4,_=>simpa using e y4
  |5,_=>simpa using e y5
  |6,_=>simpa using e y6
  |7,_=>simpa using e y7
  |8,_=>simpa using e y8
  |9,_=>simpa using e y9
  |10,_=>simpa using e eE
  |11,_=>simpa using e oq
  |12,_=>simpa using e sj
  |i+13,hi=>omega
 obtain⟨rfl,_⟩:=z0.cF;obtain⟨rfl,_⟩:=z1.cF;obtain⟨rfl,_⟩:=z2.cF;obtain⟨rfl,_⟩:=z3.cF;obtain⟨rfl,_⟩:=z4.cF;obtain⟨rfl,_⟩:=z5.cF;obtain⟨rfl,_⟩:=z7.cF;obtain⟨rfl,_⟩:=z8.cF;obtain⟨rfl,_⟩:=z9.cF;obtain⟨rfl,_⟩:=UJ.cF;obtain⟨rfl,_⟩:=z11.cF;obtain⟨rfl,_⟩:=z12.cF;obtain⟨B,b0,r0,rfl⟩:=z6.ln hk (l:=0) rfl;have ho:iL w a t B B.sv:=⟨r0.CQ λcs gl p hp=>pH gl hp,rfl,λhz=>by
  rcases(hk.own _ _ b0 hz).1 with h|h
  ·exact absurd h sr
  ·exact h⟩
 obtain⟨X,c,e⟩:=bT ho.rep;rw[List.length_map]at e
 rw[e]at ho
 exact⟨B,X,c,by rw[hvs,e],wm hk,ho⟩
end
theorem Na(v0 v1 v2 v3 v4 v6 u:Value){B:cL}(hv:u=B.sv)(xs:List Int)(k:Int)(w:World)(h:RB w 3 1 (xs.map aI) B)(hn:xs.length<=1048576)(h0:1<=k)(h1:k<=900000000):
 Calls prog 77 #[.agg #[v0,v1,v2,v3,v4,u,v6],ZF ZG k] w λe w'=>e=.returned (ZF ZG (k+(xs.length:Int)))/\mA (xT B) w w':=by
 have u0:=mA.of (zf w (.cells #[v0,v1,v2,v3,v4,u,v6] 44));have c0:=zB (k:=k) (h.cx u0 λ_ h=>h) hn h0 YG
 rw[<-hv]at c0
 have C0:=Lib.hid c0;have U0:=Lib.hid u0;clear c0 u0 h hv
 go_enter func77,ntmps77
 go_wp2_with fail
 refine C0.out.mono ?_;rintro e w1 ⟨rfl,_,q1⟩;have Q:=Lib.hid ((U0.out.more (O':=xT B) λ_ h=>h.elim).trans q1 λ_ _ h=>h)
 clear q1
 go_wp2_with fail
 go_ret
 exact⟨rfl,Q.out⟩
theorem Zb4{t:ZJ}{B:cL}{u:Value}{w0 w:World}(h:iL w0 w t B u)(k:Int)(hn:t.av.bb.length<=1048576)(h0:1<=k)(h1:k<=900000000):
 Calls prog 18 #[.agg #[ZF ZG t.kind,ZF ZG t.av.label.ax,ZF ZG t.av.label.bZ,.string t.av.label.aX,.string t.av.ar,ZF ZG t.av.ab,u,ZF ZG t.av.value,ZF ZG t.order,ZF ZG t.bh,ZF ZG t.bn,ZF ZG t.aV.bG,ZF ZG t.aV.day],ZF ZG k] w λe w'=>e=.returned (ZF ZG (k+(t.av.bb.length:Int)))/\mA (xT B) w w':=by
 have u0:=mA.of (zf w (.cells #[ZF ZG t.kind,ZF ZG t.av.label.ax,ZF ZG t.av.label.bZ,.string t.av.label.aX,.string t.av.ar,ZF ZG t.av.ab,u,ZF ZG t.av.value,ZF ZG t.order,ZF ZG t.bh,ZF ZG t.bn,ZF ZG t.aV.bG,ZF ZG t.aV.day] 48));have c0:=Na (ZF ZG t.av.label.ax) (ZF ZG t.av.label.bZ) (.string t.av.label.aX) (.string t.av.ar) (ZF ZG t.av.ab) (ZF ZG t.av.value) u h.val _ k _ (h.row.cx u0 λ_ h=>h) hn h0 h1
 have C0:=Lib.hid c0;have U0:=Lib.hid u0;clear c0 u0 h
 go_enter func18,ntmps18
 go_wp2_with fail
 refine C0.out.mono ?_;rintro e w1 ⟨rfl,q1⟩;have Q:=Lib.hid ((U0.out.more (O':=xT B) λ_ h=>h.elim).trans q1 λ_ _ h=>h)
 clear q1
 go_wp2_with fail
 go_ret
 exact⟨rfl,Q.out⟩
section
variable {w:World} {t:ZJ} {u v:Value}
theorem ZaG{y z:Int}(hy:gQ t y=ZA z)(h:cf w (dV w) (.sl (t.av.bb.map aI)) u):
 Calls prog 11 #[.agg #[ZF ZG t.kind,ZF ZG t.av.label.ax,ZF ZG t.av.label.bZ,.string t.av.label.aX,.string t.av.ar,ZF ZG t.av.ab,u,ZF ZG t.av.value,ZF ZG t.order,ZF ZG t.bh,ZF ZG t.bn,ZF ZG t.aV.bG,ZF ZG t.aV.day],ZF ZG y] w λe w'=>e=.returned (ZF ZG z)/\Up w w':=by
 have c:=CT.ok (P:=prog) hy;simp only[CT.f,CT.args,CT.m0,CT.res,CT.mem]at c
 exact cq.val c rfl (Ec (uc h) (.c (.v _ rfl)))
theorem Zhi(ht:fB t t=ZA ZC)(h:cf w (dV w) (.sl (t.av.bb.map aI)) u)(h':cf w (dV w) (.sl (t.av.bb.map aI)) v):
 Calls prog 16 #[.agg #[ZF ZG t.kind,ZF ZG t.av.label.ax,ZF ZG t.av.label.bZ,.string t.av.label.aX,.string t.av.ar,ZF ZG t.av.ab,u,ZF ZG t.av.value,ZF ZG t.order,ZF ZG t.bh,ZF ZG t.bn,ZF ZG t.aV.bG,ZF ZG t.aV.day],.agg #[ZF ZG t.kind,ZF ZG t.av.label.ax,ZF ZG t.av.label.bZ,.string t.av.label.aX,.string t.av.ar,ZF ZG t.av.ab,v,ZF ZG t.av.value,ZF ZG t.order,ZF ZG t.bh,ZF ZG t.bn,ZF ZG t.aV.bG,ZF ZG t.aV.day]] w λe w'=>e=.returned (.bool ZC)/\Up w w':=by
 have c:=CT.ok (P:=prog) ht;simp only[CT.f,CT.args,CT.m0,CT.res,CT.mem]at c
 exact cq.val c rfl (Ec (uc h) (uc h'))
end
end Go.Proofs.YtbalgkakkoocjaaGreat
