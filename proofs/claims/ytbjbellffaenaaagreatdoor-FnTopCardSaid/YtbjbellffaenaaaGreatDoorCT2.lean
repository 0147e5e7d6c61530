/- A part of the proof of this claim's last theorem. No condition. -/
import Derived.Test.YtbjbellffaenaaaGreatDoorCT1
import Derived.Laws.BytesArg
set_option linter.all false
set_option maxRecDepth 10000
open Go.Value renaming int->Zh
open Go.IntKind renaming i64->Zi
open Go renaming undef->Zj
open Option renaming some->F,none->X
open Bool renaming true->M,false->V
open Decidable renaming decide->Zg
open Option renaming map_eq_some_iff->Wc,map_some->WC,bind_some->VR,getD_some->W9
open Option.some renaming injEq->V8
open List renaming map_eq_cons_iff->Xn,all_eq_true->VZ,mem_of_getElem?->VU,getElem?_map->Wp,replicate->V9,mem_cons_of_mem->Wl,getElem?_set_ne->WB,getElem?_set_self->WR,mem_cons_self->Wo,getElem?_eq_some_iff->VT,getD->XN,getElem?_eq_getElem->VS,getElem?_of_mem->WL,pairwise_iff_getElem->Wr,range'->XM,foldl_cons->Wq,foldl_nil->Wm,map_congr_left->WG,mem_append->We,mem_cons->VY,length_nil->V2,drop_zero->Yg,mem_flatMap->WY,not_mem_nil->V1,ext_getElem?->XZ,range->Wj,mem_append_left->W0,mem_range->W3,mem_filter->WW
open Classical renaming axiomOfChoice->Xk,choose->XP,choose_spec->Xe
open Nat renaming zero_le->Ws,lt_trichotomy->WQ,add_zero->W8,le_trans->Wd,zero_add->Wa
open _root_.Array renaming getElem?_eq_getElem->V4,getD->X8,toList_append->XO,all_toList->X0,getD_eq_getD_getElem?->WA,getElem?_setIfInBounds_ne->XV
open Bool renaming false_eq_true->WJ,and_eq_true->V7
open List renaming length->G
open _root_ renaming Array->R,List->C,Option->N,absurd->Zo,congrFun->Zp
open Go.Proofs.YtbjbellffaenaaaGreatDoor renaming YD->Y,iy->W,live->Z
namespace Go.Proofs.YtbjbellffaenaaaGreatDoor
open Go.RowKit
variable {B:sx}{K:PV->Prop}{es:C (C PV)}{l:Nat}{mb:MB}{p:PV}{x:Value}{α:Type}{ω:Nat->Key->Prop}{a:R α}
def wP:PV->Bool
 |.v _|.ud|.un|.sl _|.rp _=>M
 |_=>V
def uQ:PV->Bool
 |.fn _ cs=>cs.all wP
 |p=>wP p
def Nz:PV->Bool
 |.v _|.ud|.un|.ms _|.be ..=>M
 |_=>V
def E1(S:Nat->Prop)(β:Nat->N sx)(n:Nat)(ω:Nat->Key->Prop:=λ_ _=>False):Env:={ S:=S,β:=β,used:=λl=>l<n,ω:=ω}
def eh(P:Program)(f:FuncId)(args:C PV)(m0:Mem)(r:PV)(m1:Mem):Prop:=
 ∀(S:Nat->Prop) (β:Nat->N sx) (w:World) (vs:R Value) (ω:Nat->Key->Prop),Ok w (oW β) (E1 S β (G m0) ω) w m0->vs.size=G args->(∀(i:Nat) (p:PV),args[i]?=F p->∃x,vs[i]?=F x/\eC w (E1 S β (G m0) ω) p x)->
  Calls P f vs w λe w'=>∃v E',e=.returned v/\Ok w (oW β) E' w' m1/\(∀b,S b->E'.S b)/\(∀b,E'.S b->S b\/w.heap.size<=b\/oW β b)/\((∀l B,l<G m0->E'.β l=F B->β l=F B)/\∀b q,E'.ω b q->ω b q\/w.heap.size<=b\/oW β b)/\eC w' E' r v
theorem eC.Zlc{w:World}{S:Nat->Prop}{β:Nat->N sx}{n:Nat}{ω ω':Nat->Key->Prop}(h:eC w (E1 S β n ω) p x):eC w (E1 S β n ω') p x:=eC.same (E:=E1 S β n ω) (E':=E1 S β n ω') (λ_ h=>h) (λ_ _ _ h=>h) (λ_ h=>h) h
abbrev CallOk(P:Program)(f:FuncId)(args:C PV)(r:PV)(m':Mem):Prop:=eh P f args [] r m'
section
variable {w:World} {O:Nat->Prop} {E:Env} {w0:World} {m:Mem} {P:Program}
def PJ(P:Program)(E:Env)(w:World)(a:Act)(o:Oper)(p:PV):Prop:=
 ∃x,(execOp a.eval o).run P w=.ok (.value x) w/\eC w E p x
def wh:C (C PV)->N (C Int)
 | []=>F []
 | [.v (.int .u8 n)]::rest=>(wh rest).map (n::·)
 |_=>X
theorem FL:∀{es:C (C PV)} {ns:C Int},wh es=F ns->G ns=G es/\∀i,i<G es->es[i]?=F [.v (.int .u8 (ns.getD i 0))]
 | [],ns,h=>by simp only[wh]at h;grind
 |e::es,ns,h=>by
  unfold wh at h
  split at h
  ·grind
  ·rename_i n rest heq
   obtain⟨ms,hms,rfl⟩:=Wc.1 h;obtain⟨h1,h2⟩:=FL hms
   grind
  grind
def uh(P:Program)(m:Mem)(s d:TypeId)(x:PV)(K:PV->Prop):Prop:=
 match x with
 |.ms l=>match P.underlying s,P.underlying d with
  |some (.slice e),F .string=>P.underlying e=F (.int .u8)/\Z m l λmb=>mb.k=1/\match wh mb.es with
   |some ns=>K (.v (.string (strOfNums ns)))
   |none=>False
  |_,_=>False
 |x=>GK P s d x K
theorem KQ(hk:Ok w0 O E w m){s d:TypeId}(hx:eC w E p x)(h:uh P m s d p K):∃r v,K r/\(convert s d x).run P w=.ok v w/\eC w E r v:=by
 unfold uh at h
 split at h
 ·split at h
  ·rename_i e hs hd
   obtain⟨he,h⟩:=h;obtain⟨mb,hm,hk1,h⟩:=jR h
   split at h
   ·rename_i ns hns
    obtain⟨B,hB,hb,rfl⟩:=hx.vp hk hm;obtain⟨hl,zJ⟩:=FL hns
    cases hz:B.z with
    |true=>
     have h0:=hb.nil hz;rw[h0]at hns
     simp only[wh,V8]at hns
     subst hns;refine⟨_,.string (strOfNums []),h,?_,.c (.v _ rfl)⟩;rw[show B.sv=.slice X 0 0 by simp[sx.sv,hz]]
     exact run_convert_bytes_nil w s e hs he 0 0 d hd
    |false=>
     obtain⟨cells,m1,m2,m3⟩:=hb.mem hz;have hk':B.k=1:=hb.k.trans hk1;refine⟨_,.string (strOfNums ns),h,?_,.c (.v _ rfl)⟩;rw[show B.sv=.slice (F ⟨B.b,0,X⟩) B.n B.c by simp[sx.sv,hz]]
     refine run_convert_bytes_arg w s e hs he B.b 0 B.n B.c ns (by rw[hl,hb.n]) (λi hi=>?_) d hd
     rw[hb.n]at hi
     obtain⟨y,y1,_,y3⟩:=m3 i _ 0 _ (zJ i hi) rfl;rw[hk']at y1
     rw[cell_of_row w B.b _ cells B.T (0,0) m1];rw[y3.jw.1]at y1
     omega
   grind
  grind
 ·obtain⟨r,v,h1,h2,h3⟩:=Oc hx h
  grind
def sU(mx:Bool)(ps:C PV)(K:PV->Prop):Prop:=
 match ps with
 | [.v (.int k a),.v (.int k' b)]=>if mx then K (.v (.int k (if b > a then b else a)))else K (.v (.int k (if b<a then b else a)))
 |_=>False
def su(P:Program)(o:Op)(t:C PV)(m:Mem)(K:PV->Prop):Prop:=
 match o with
 |.move x=>K (W t x)
 |.assign x=>K (W t x)
 |.pick c x y=>match W t c with
  |.v (.bool b)=>K (if b then W t x else W t y)
  |_=>False
 |.load T a=>uw P T (PG m (W t a)) K
 |.nilCheck x=>Ii m (W t x) K
 |.binOp op T x y _=>Oa P op T (W t x) (W t y) K
 |.unOp op _ x=>pUn op (W t x) K
 |.convert s d x=>uh P m s d (W t x) K
 |.makeFunc fn first cs=>match fn,first.toList with
  |.func f,[]=>K (.fn f (cs.toList.map (W t)))
  |_,_=>False
 |.slice T x lo hi mx=>match mx with
  |none=>mw P m T (W t x) (lo.map (W t)) (hi.map (W t)) K
  |some _=>False
 |.fieldAddr S x f=>mv P m S (W t x) f K
 |.field T x f=>yN P T (W t x) f K
 |.indexAddr T x i=>dh P m T (W t x) (W t i) K
 |.index T x i=>vv P T (W t x) (W t i) K
 |.extract x i=>Od i (W t x) K
 |.build T ps=>yM P T (ps.toList.map λq=>(q.1,W t q.2)) K
 |.call c=>match c.callee with
  |.builtin .len=>match c.args.toList,c.argTypes.toList with
   | [x],[T]=>zR P m T (W t x) K
   |_,_=>False
  |.builtin .min=>sU V (c.args.toList.map (W t)) K
  |.builtin .max=>sU M (c.args.toList.map (W t)) K
  |_=>False
 |_=>False
theorem Zg5{s:Sem Value}{w w':World}(h:s.run P w=.ok x w'):(do pure (Next.value (<-s)):Sem Next).run P w=.ok (.value x) w':=by
 simp_all
theorem Iv{x:α}(h:a.toList=[x]):a=#[x]:=Array.ext' YA
theorem zk{x y:α}(h:a.toList=[x,y]):a=#[x,y]:=Array.ext' YA
theorem Rc(hk:Ok w0 O E w m){t:C PV}{a:Act}(ht:ue w E t a.tmps){o:Oper}(h:su P o.op t m K):∃p,K p/\PJ P E w a o p:=by
 have ev:=BC ht;have fin:∀{s:Sem Value},(∃r v,K r/\(∀w',s.run P w'=.ok v w')/\eC w E r v)->(execOp a.eval o=do pure (Next.value (<-s)))->∃p,K p/\PJ P E w a o p:=by
  intro s ⟨r,v,hK,kZ,wj⟩ he;exact⟨r,hK,v,by simp_all,wj⟩
 unfold su at h
 split at h
 ·rename_i x ho
  exact⟨_,h,a.eval x,by simp[execOp,ho],ev x⟩
 ·rename_i x ho
  exact⟨_,h,a.eval x,by simp[execOp,ho],ev x⟩
 ·rename_i c x y ho
  split at h
  ·rename_i b hc
   have h1:=ev c;rw[hc]at h1
   have h2:=h1.jw.1;refine⟨_,h,if b then a.eval x else a.eval y,by cases b<;>simp[execOp,ho,h2,asBool],?_⟩
   grind
  grind
 ·rename_i T x ho
  cases hp:PG m (W t x)with
  |none=>unfold uw at h;grind
  |some cs=>
   rw[hp]at h
   obtain⟨b,off,hx,hb,hc⟩:=SQ hk (ev x) hp;obtain⟨p,v,hK,kZ,wj⟩:=I9 h hb hc;exact⟨p,hK,v,by simp only[execOp,ho,hx];exact Zg5 (by exact kZ w (Up.rfl' w)),wj⟩
 ·rename_i x ho
  unfold Ii at h
  split at h
  ·rename_i l i oo hx
   obtain⟨mb,hm,hK⟩:=jR h;have h1:=ev x;rw[hx]at h1
   obtain⟨B,hB,hb,hz,e⟩:=h1.FA hk hm;exact⟨_,hK,a.eval x,by simp[execOp,ho,e],h1⟩
  ·rename_i cs hx
   have h1:=ev x;rw[hx]at h1
   have h2:∃b off,a.eval x=.pointer (F ⟨b,off,X⟩):=by
    generalize a.eval x=v at h1
    cases h1.Rp with
    |rp _ b off=>simp
   obtain⟨b,off,h2⟩:=h2;exact⟨_,h,a.eval x,by simp[execOp,ho,h2],h1⟩
  grind
 ·rename_i op T x y Ty ho
  exact fin (QM (ox:=x) (oy:=y) (ev x) (ev y) h) YO
 ·rename_i op T x ho
  exact fin (U1 (ev x) h) YO
 ·rename_i s d x ho
  obtain⟨r,v,hK,kZ,wj⟩:=KQ hk (ev x) h;exact⟨r,hK,v,by simp only[execOp];simp_all,wj⟩
 ·rename_i fn first cs ho
  split at h
  ·rename_i f hf
   have hfe:first=#[]:=Array.ext' YA
   subst hfe;refine⟨_,h,.func (.func f) #[] (cs.map a.eval),by simp[execOp,ho,Instr.makeFunc],.fn f _ _ YE λj p x hp hx=>?_⟩
   grind
  grind
 ·rename_i T x lo hi mx ho
  split at h
  ·refine fin (KV hk (EJ:=lo.map a.eval) (EI:=hi.map a.eval) (ev x) ?_ ?_ ?_ ?_ h) (by simp only[execOp,ho,Option.map_none])
   ·cases lo with
    |none=>grind
    |some z=>grind
   ·simp
   ·cases hi with
    |none=>grind
    |some z=>grind
   simp
  grind
 ·rename_i S x f ho
  exact fin (Du hk (ev x) h) YO
 ·rename_i T x f ho
  exact fin (KS (ev x) h) YO
 ·rename_i T x i ho
  exact fin (Dw hk (ev x) (ev i) h) YO
 ·rename_i T x i ho
  exact fin (KT (ev x) (ev i) h) YO
 ·rename_i x i ho
  exact fin (QO (ev x) h) YO
 ·rename_i T ps ho
  refine fin (KO (vs:=ps.map fun(i,x)=>(i,a.eval x)) YE (λj i p hj=>?_) h) YO
  grind
 ·rename_i c ho
  split at h
  ·rename_i hc
   split at h
   ·rename_i x T hx hT
    obtain⟨callee,args,argTypes⟩:=c;have ha:=Iv hx;have hTs:=Iv hT;subst hc ha hTs;obtain⟨r,v,hK,kZ,wj⟩:=QQ (ty:=o.type) hk (ev x) h;exact⟨r,hK,v,by simp[execOp,ho,resolve,invoke,builtin,kZ],wj⟩
   grind
  ·rename_i hc
   unfold sU at h
   split at h
   ·rename_i k a1 k' b1 hargs
    obtain⟨callee,args,argTypes⟩:=c;subst hc;obtain⟨x,l,e1,hx,e2⟩:=Xn.1 hargs;obtain⟨y,l2,e3,hy,e4⟩:=Xn.1 e2;rw[List.map_eq_nil_iff.1 e4]at e3
    rw[e3]at e1
    have ha:=zk e1;subst ha;have vx:=ev x;rw[hx]at vx
    have vy:=ev y;rw[hy]at vy
    have vx:=vx.jw.1;have vy:=vy.jw.1;exact⟨_,h,.int k (if b1<a1 then b1 else a1),by simp[execOp,ho,resolve,invoke,builtin,vx,vy,run_min_int2],.c (.v _ rfl)⟩
   grind
  ·rename_i hc
   unfold sU at h
   split at h
   ·rename_i k a1 k' b1 hargs
    obtain⟨callee,args,argTypes⟩:=c;subst hc;obtain⟨x,l,e1,hx,e2⟩:=Xn.1 hargs;obtain⟨y,l2,e3,hy,e4⟩:=Xn.1 e2;rw[List.map_eq_nil_iff.1 e4]at e3
    rw[e3]at e1
    have ha:=zk e1;subst ha;have vx:=ev x;rw[hx]at vx
    have vy:=ev y;rw[hy]at vy
    have vx:=vx.jw.1;have vy:=vy.jw.1;exact⟨_,h,.int k (if b1 > a1 then b1 else a1),by simp[execOp,ho,resolve,invoke,builtin,vx,vy,run_max_int2],.c (.v _ rfl)⟩
   grind
  grind
 grind
def Cm(m:Mem)(p:PV)(K:PV->Prop):Prop:=
 match p with
 |.ms l=>Z m l λmb=>K (@ite PV (∀cs∈mb.es,∀q∈cs,uQ q=M) (Classical.propDecidable _) (.sl mb.es) .un)
 |.ss l a b=>Z m l λmb=>(∀cs∈mb.es,∀q∈cs,uQ q=M)/\K (.sl ((mb.es.drop a).take (b-a)))
 |.v x=>K (.v x)
 |.sl es=>K (.sl es)
 |.rp cs=>K (.rp cs)
 |.un=>K .un
 |.ud=>K .ud
 |_=>False
def Hj(m:Mem):C PV->(C PV->Prop)->Prop
 | [],K=>K []
 |c::cs,K=>Cm m c λc'=>Hj m cs λrW=>K (c'::rW)
def Hk(m:Mem)(p:PV)(K:PV->Prop):Prop:=
 match p with
 |.ag cs=>Hj m cs λrW=>K (.ag rW)
 |p=>Cm m p K
def Cl(m:Mem):C PV->(C PV->Prop)->Prop
 | [],K=>K []
 |c::cs,K=>Hk m c λc'=>Cl m cs λrW=>K (c'::rW)
def Zar(E:Env)(b:Nat):Prop:=E.S b\/oW E.β b
theorem eO.all{S S':Nat->Prop}(h:eO w S p x)(hS:∀b,S b->S' b):eO w S' p x:=h.ext hS λ_ _ _=>rfl
theorem eC.Zlb(h:eC w E p x)(hc:wP p=M):eO w E.S p x:=by
 cases h with
 |c h=>exact h
 |_=>simp[wP]at hc
theorem eC.toC(h:eC w E p x)(hc:uQ p=M):eO w E.S p x:=by
 cases h with
 |c h=>exact h
 |fn f cs vs hl hr=>
  simp only[uQ,VZ]at hc
  exact .fn f cs vs hl λj p x hp hx=>(hr j p x hp hx).Zlb (hc p (VU hp))
 |_=>simp[uQ,wP]at hc
theorem Hc(hB:E.β l=F B)(hb:iA w E mb B)(vD:∀cs∈mb.es,∀q∈cs,uQ q=M){S:Nat->Prop}(hS:∀b,E.S b->S b)(hSB:B.z=V->S B.b){a b:Nat}(C2:a<=b)(hbn:b<=B.n){A:N Addr}{c:Nat}
 (hA:a<b->B.z=V/\A=F ⟨B.b,a*B.k,X⟩/\b-a<=c/\c<=maxLen):eO w S (.sl ((mb.es.drop a).take (b-a))) (.slice A (b-a) c):=by
 have hel:G ((mb.es.drop a).take (b-a))=b-a:=by rw[List.length_take,List.length_drop,<-hb.n];omega
 rcases Nat.lt_or_ge a b with bD|Cz
 ·obtain⟨hz,rfl,Ge,LM⟩:=hA bD
  obtain⟨cells,m1,m2,m3⟩:=hb.mem hz;have get:∀{i:Nat} {cs:C PV},((mb.es.drop a).take (b-a))[i]?=F cs->mb.es[a+i]?=F cs:=by
   grind
  have hex:∀ij:Nat×Nat,∃u:Value,∀cs p,mb.es[a+ij.1]?=F cs->cs[ij.2]?=F p->cells[(a+ij.1)*B.k+ij.2]?=F u/\u.oneCell'=M/\eO w S p u:=by
   intro⟨i,j⟩
   cases hi:mb.es[a+i]? with
   |none=>simp
   |some cs=>
    cases hj:cs[j]? with
    |none=>exact⟨Zj,λrW p h h'=>by grind⟩
    |some p=>
     obtain⟨u,u1,u2,u3⟩:=m3 _ cs j p hi hj;refine⟨u,λrW p' h h'=>?_⟩
     simp at h
     subst h;simp only[hj,V8]at h'
     subst h';exact⟨u1,u2,(u3.toC (vD cs (VU hi) p (VU hj))).all hS⟩
  obtain⟨f,hf⟩:=Xk hex;have key:=eO.sl (w:=w) (S:=S) ((mb.es.drop a).take (b-a)) B.b (a*B.k) B.k c (λi j=>f (i,j)) (hSB hz) hb.pos YA LM (λi cs hi=>hb.es _ cs (get hi))
   (λi cs j p hi hj=>by
    have:=(hf (i,j) cs p (get hi) hj).1;rw[cell_of_row w B.b _ cells B.T (0,0) m1]
    grind) (λi cs j p hi hj=>(hf (i,j) cs p (get hi) hj).2.1) λi cs j p hi hj=>(hf (i,j) cs p (get hi) hj).2.2
  grind
 ·have hba:b-a=0:=YA
  rw[hba];exact .nil _ _
theorem Zgp(hb:iA w E mb B):∃A c,B.sv=.slice A B.n c/\(0<B.n->B.z=V/\A=F ⟨B.b,0,X⟩/\B.n<=c/\c<=maxLen):=by
 cases hz:B.z with
 |true=>exact⟨X,0,by simp[sx.sv,hz,hb.n,hb.nil hz],λh=>by rw[hb.n,hb.nil hz]at h;grind⟩
 |false=>exact⟨_,_,by simp[sx.sv,hz],λ_=>⟨rfl,rfl,hb.nc,hb.cm⟩⟩
theorem SX(hB:E.β l=F B)(hb:iA w E mb B)(vD:∀cs∈mb.es,∀q∈cs,uQ q=M){S:Nat->Prop}(hS:∀b,E.S b->S b)(hSB:B.z=V->S B.b):eO w S (.sl mb.es) B.sv:=by
 obtain⟨A,c,Nj,hA⟩:=Zgp hb;have:=Hc hB hb vD hS hSB (a:=0) (b:=B.n) (Ws _) (Nat.le_refl _) (A:=A) (c:=c) Y;rw[Nj]
 simpa[hb.n]using this
theorem Ju(hk:Ok w0 O E w m)(hx:eC w E p x)(h:Cm m p K):∃q,K q/\eO w (Zar E) q x/\uQ q=true:=by
 unfold Cm at h
 split at h
 ·rename_i l
  obtain⟨mb,hm,hK⟩:=jR h
  by_cases vD:∀cs∈mb.es,∀q∈cs,uQ q=M
  ·rw[if_pos vD]at hK
   obtain⟨B,hB,hb,rfl⟩:=hx.vp hk hm;exact⟨_,hK,SX hB hb vD (λb hb=>.inl hb) λhz=>.inr ⟨l,B,hB,hz,rfl⟩,rfl⟩
  ·rw[if_neg vD]at hK
   exact⟨_,hK,.un x,rfl⟩
 ·rename_i l a b
  obtain⟨mb,hm,vD,hK⟩:=jR h;obtain⟨B,hB,hb,A,c,rfl,C2,hbn,hA⟩:=hx.DF hk hm;exact⟨_,hK,Hc hB hb vD (λb hb=>.inl hb) (λhz=>.inr ⟨l,B,hB,hz,rfl⟩) C2 hbn hA,rfl⟩
 ·exact⟨_,h,(hx.toC rfl).all λb hb=>.inl hb,rfl⟩
 ·exact⟨_,h,(hx.toC rfl).all λb hb=>.inl hb,rfl⟩
 ·exact⟨_,h,(hx.toC rfl).all λb hb=>.inl hb,rfl⟩
 ·exact⟨_,h,(hx.toC rfl).all λb hb=>.inl hb,rfl⟩
 ·exact⟨_,h,(hx.toC rfl).all λb hb=>.inl hb,rfl⟩
 grind
def Zji(w:World)(S:Nat->Prop)(q:PV)(x:Value):Prop:=∀β n ω,eC w (E1 S β n ω) q x
theorem Jv(hk:Ok w0 O E w m):∀(cs:C PV) (vs:C Value) (K:C PV->Prop),G vs=G cs->(∀(j:Nat) (p:PV) (x:Value),cs[j]?=F p->vs[j]?=F x->eC w E p x)->Hj m cs K->
 ∃ds,K ds/\(G ds)=G cs/\∀(j:Nat) (q:PV) (x:Value),ds[j]?=F q->vs[j]?=F x->eO w (Zar E) q x
 | [],[],K,_,_,h=>⟨[],h,rfl,by simp⟩
 | [],_::_,_,hl,_,_=>by grind
 |_::_,[],_,hl,_,_=>by grind
 |c::cs,v::vs,K,hl,hr,h=>by
  obtain⟨q,hK,hq,_⟩:=Ju hk (hr 0 c v rfl rfl) h;obtain⟨ds,hK',hdl,hd⟩:=Jv hk cs vs _ Y (λj p x hp hx=>hr (j+1) p x Y Y) hK
  grind
theorem VN(hk:Ok w0 O E w m)(hx:eC w E p x)(h:Hk m p K):∃q,K q/\Zji w (Zar E) q x:=by
 unfold Hk at h
 split at h
 ·rename_i cs
  obtain⟨vs,rfl,hl,h1,hr⟩:=hx.si;obtain⟨ds,hK,hdl,hd⟩:=Jv hk cs vs.toList _ YA (λj p x hp hx=>hr j p x hp Y) h
  exact⟨_,hK,λβ n ω=>.ag ds vs YA h1 λj p x hp hx=>.c (hd j p x hp Y)⟩
 ·obtain⟨q,hK,hq,_⟩:=Ju hk hx h
  exact⟨q,hK,λβ n ω=>.c hq⟩
theorem Jt(hk:Ok w0 O E w m):∀(cs:C PV) (vs:C Value) (K:C PV->Prop),G vs=G cs->(∀(j:Nat) (p:PV) (x:Value),cs[j]?=F p->vs[j]?=F x->eC w E p x)->Cl m cs K->
 ∃ds,K ds/\(G ds)=G cs/\∀(j:Nat) (q:PV) (x:Value),ds[j]?=F q->vs[j]?=F x->Zji w (Zar E) q x
 | [],[],K,_,_,h=>⟨[],h,rfl,by simp⟩
 | [],_::_,_,hl,_,_=>by grind
 |_::_,[],_,hl,_,_=>by grind
 |c::cs,v::vs,K,hl,hr,h=>by
  obtain⟨q,hK,hq⟩:=VN hk (hr 0 c v rfl rfl) h;obtain⟨ds,hK',hdl,hd⟩:=Jt hk cs vs _ Y (λj p x hp hx=>hr (j+1) p x Y Y) hK
  grind
end
def x9(σ:Nat->Nat):PV->PV
 |.ms l=>.ms (σ l)
 |.ss l a b=>.ss (σ l) a b
 |.be l i o=>.be (σ l) i o
 |p=>p
def uH(σ:Nat->Nat):PV->PV
 |.fn f cs=>.fn f (cs.map (x9 σ))
 |p=>x9 σ p
def Cg(σ:Nat->Nat):PV->PV
 |.ag cs=>.ag (cs.map (uH σ))
 |p=>uH σ p
def Ch(σ:Nat->Nat):PV->PV
 |.tu vs=>.tu (vs.map (Cg σ))
 |p=>Cg σ p
def ux(σ:Nat->Nat)(es:C (C PV)):C (C PV):=es.map (·.map (uH σ))
def o5(σ:Nat->Nat)(mb:MB):MB:=⟨mb.T,mb.k,ux σ mb.es⟩
def Gq:PV->Bool
 |.ag _|.tu _|.fn _ _=>V
 |_=>M
def fC(flat:Bool):PV->Prop
 |.fn _ cs=>flat=V/\∀c∈cs,Gq c=M
 |p=>flat=M->Nz p=M
def vP(flat:Bool):PV->Prop
 |.ag cs=>∀c∈cs,fC flat c
 |.tu _=>False
 |p=>fC flat p
def s9(flat:Bool):PV->Prop
 |.tu vs=>∀v∈vs,vP flat v
 |p=>vP flat p
theorem ZfS{σ:Nat->Nat}(h:uH σ p=.sl es):p=.sl es:=by
 unfold uH at h
 split at h
 ·cases h
 ·cases p<;>simp[x9]at h⊢<;>exact h
theorem eO.flat{w:World}{S S':Nat->Prop}(hF:Nz p=M)(h:eO w S p x):eO w S' p x:=by
 cases h with
 |v x h=>exact .v x h
 |ud=>exact .ud
 |un x=>exact .un x
 |_=>simp[Nz]at hF
def yE:PV->Bool
 |.sl es=>es.all λcs=>cs.all Nz
 |_=>V
theorem eO.key{w:World}{S S':Nat->Prop}(hF:yE (.sl es)=M)(hb:es≠[]->∀b off n c,x=.slice (F ⟨b,off,X⟩) n c->S' b)(h:eO w S (.sl es) x):eO w S' (.sl es) x:=by
 cases h with
 |nil A c=>exact .nil A c
 |sl es b off k c u hS hk hn hm zq hc h1 hr=>
  by_cases gL:es=[]
  ·subst gL;exact .nil _ _
  ·refine .sl es b off k c u (hb gL b off _ c rfl) hk hn hm zq hc h1 λi cs j p hi hj=>(hr i cs j p hi hj).flat ?_
   exact VZ.1 (VZ.1 hF cs (VU hi)) p (VU hj)
section
variable {w':World} {E' E2:Env} {σ:Nat->Nat} {flat:Bool}
theorem OH(Az:∀l B,E'.used l->E2.β (σ l)=F B->E'.β l=F B)(hu:∀l,E'.used l->E2.used (σ l))(hS:∀p x,(flat=M->Nz p=M)->eO w' E'.S p x->eO w' E2.S p x)
 (h:eC w' E' p x) (hp:Gq p=M) (hG:flat=M->Nz p=M):eC w' E2 (x9 σ p) x:=by
 cases h with
 |c h=>
  have:x9 σ p=p:=by cases h<;>rfl
  rw[this];exact .c (hS p x hG h)
 |ms l _ hl h1 h=>exact .ms _ _ (hu l hl) h1 λB hB=>h B (Az l B hl hB)
 |ss l a b _ hl h1 h=>exact .ss _ _ _ _ (hu l hl) h1 λB hB=>h B (Az l B hl hB)
 |be l i o _ hl h1 h=>exact .be _ _ _ _ (hu l hl) h1 λB hB=>h B (Az l B hl hB)
 |ag cs=>simp[Gq]at hp
 |tu cs=>simp[Gq]at hp
 |fn f cs=>simp[Gq]at hp
theorem G6(Az:∀l B,E'.used l->E2.β (σ l)=F B->E'.β l=F B)(hu:∀l,E'.used l->E2.used (σ l))(hS:∀p x,(flat=M->Nz p=M)->eO w' E'.S p x->eO w' E2.S p x)
 (h:eC w' E' p x) (hp:fC flat p) (hna:∀cs,p≠.ag cs) (hnt:∀cs,p≠.tu cs):eC w' E2 (uH σ p) x:=by
 cases p with
 |fn f cs=>
  obtain⟨LO,tv⟩:=hp;obtain⟨vs,rfl,hl,hr⟩:=h.Kd;refine .fn f _ vs Y λj q x hq hx=>?_
  rw[Wp]at hq
  cases hc:cs[j]? with
  |none=>grind
  |some c=>
   simp only[hc,WC,V8]at hq
   subst hq;exact OH Az hu hS (hr j c x hc hx) (tv c (VU hc)) (λh=>by grind)
 |ag cs=>grind
 |tu cs=>grind
 |_=>exact OH Az hu hS h rfl hp
theorem OI(Az:∀l B,E'.used l->E2.β (σ l)=F B->E'.β l=F B)(hu:∀l,E'.used l->E2.used (σ l))(hS:∀p x,(flat=M->Nz p=M)->eO w' E'.S p x->eO w' E2.S p x)
 (h:eC w' E' p x) (hp:vP flat p):eC w' E2 (Cg σ p) x:=by
 cases p with
 |ag cs=>
  obtain⟨vs,rfl,hl,h1,hr⟩:=h.si;refine .ag _ vs Y h1 λj q x hq hx=>?_
  rw[Wp]at hq
  cases hc:cs[j]? with
  |none=>grind
  |some c=>
   simp only[hc,WC,V8]at hq
   subst hq;have hrc:=hr j c x hc hx;have Aw:=h1 j x hx;refine G6 Az hu hS hrc (hp c (VU hc)) (λcs e=>?_) (λcs e=>?_)
   ·subst e;obtain⟨_,rfl,_⟩:=hrc.si;simp[Value.oneCell']at Aw
   ·subst e;obtain⟨_,rfl,_⟩:=hrc.AX;simp[Value.oneCell']at Aw
 |tu vs=>exact hp.elim
 |_=>exact G6 Az hu hS h hp YE YE
theorem ZcZ(Az:∀l B,E'.used l->E2.β (σ l)=F B->E'.β l=F B)(hu:∀l,E'.used l->E2.used (σ l))(hS:∀p x,(flat=M->Nz p=M)->eO w' E'.S p x->eO w' E2.S p x)
 (h:eC w' E' p x) (hp:s9 flat p):eC w' E2 (Ch σ p) x:=by
 cases p with
 |tu ps=>
  obtain⟨vs,rfl,hl,hr⟩:=h.AX;refine .tu _ vs Y λj q x hq hx=>?_
  rw[Wp]at hq
  cases hc:ps[j]? with
  |none=>grind
  |some c=>
   simp only[hc,WC,V8]at hq
   subst hq;exact OI Az hu hS (hr j c x hc hx) (hp c (VU hc))
 |_=>exact OI Az hu hS h hp
end
/-! The other aE round: RL a callee is handed. -/
def EA(n:Nat):PV->Bool
 |.ms l=>Zg (l<n)
 |.ss l _ _=>Zg (l<n)
 |.be l _ _=>Zg (l<n)
 |_=>M
def AD(n:Nat):PV->Bool
 |.fn _ cs=>cs.all (EA n)
 |p=>EA n p
def Kx(n:Nat):PV->Bool
 |.ag cs=>cs.all (AD n)
 |p=>AD n p
section
variable {w:World} {E:Env} {S:Nat->Prop} {β:Nat->N sx} {n:Nat} {σ:Nat->Nat}
theorem Tt(Az:∀l B,β l=F B->E.β (σ l)=F B)(hS:∀b,E.S b->S b)(h:eC w E (x9 σ p) x)(hp:Gq p=M)(Gg:EA n p=M):eC w (E1 S β n ω) p x:=by
 cases p with
 |ms l=>
  cases h with
  |c h=>cases h
  |ms _ _ hl h1 h=>exact .ms _ _ (show _<n by simpa[EA]using Gg) h1 λB hB=>h B (Az l B hB)
 |ss l a b=>
  cases h with
  |c h=>cases h
  |ss _ _ _ _ hl h1 h=>exact .ss _ _ _ _ (show _<n by simpa[EA]using Gg) h1 λB hB=>h B (Az l B hB)
 |be l i o=>
  cases h with
  |c h=>cases h
  |be _ _ _ _ hl h1 h=>exact .be _ _ _ _ (show _<n by simpa[EA]using Gg) h1 λB hB=>h B (Az l B hB)
 |ag cs=>simp[Gq]at hp
 |tu cs=>simp[Gq]at hp
 |fn f cs=>simp[Gq]at hp
 |v y=>cases h with|c h=>exact .c (h.all hS)
 |ud=>cases h with|c h=>exact .c (h.all hS)
 |un=>cases h with|c h=>exact .c (h.all hS)
 |sl es=>cases h with|c h=>exact .c (h.all hS)
 |rp cs=>cases h with|c h=>exact .c (h.all hS)
theorem Lz(Az:∀l B,β l=F B->E.β (σ l)=F B)(hS:∀b,E.S b->S b)(h:eC w E (uH σ p) x)(hp:fC V p)(Gg:AD n p=M)(hna:∀cs,p≠.ag cs)(hnt:∀cs,p≠.tu cs):eC w (E1 S β n ω) p x:=by
 cases p with
 |fn f cs=>
  obtain⟨vs,rfl,hl,hr⟩:=h.Kd;simp only[AD,VZ]at Gg
  refine .fn f _ vs Y λj q x hq hx=>?_
  exact Tt Az hS (hr j (x9 σ q) x Y hx) (hp.2 q (VU hq)) (Gg q (VU hq))
 |ag cs=>grind
 |tu cs=>grind
 |_=>exact Tt Az hS h rfl Gg
theorem Zgz(Az:∀l B,β l=F B->E.β (σ l)=F B)(hS:∀b,E.S b->S b)(h:eC w E (Cg σ p) x)(hp:vP V p)(Gg:Kx n p=M):eC w (E1 S β n ω) p x:=by
 cases p with
 |ag cs=>
  obtain⟨vs,rfl,hl,h1,hr⟩:=h.si;simp only[Kx,VZ]at Gg
  refine .ag _ vs Y h1 λj q x hq hx=>?_
  have hrc:=hr j (uH σ q) x Y hx;have Aw:=h1 j x hx;refine Lz Az hS hrc (hp q (VU hq)) (Gg q (VU hq)) (λcs e=>?_) (λcs e=>?_)
  ·subst e;obtain⟨_,rfl,_⟩:=eC.si hrc;simp[Value.oneCell']at Aw
  ·subst e;obtain⟨_,rfl,_⟩:=eC.AX hrc;simp[Value.oneCell']at Aw
 |tu vs=>exact hp.elim
 |_=>exact Lz Az hS h hp Gg YE YE
end
def sig(ρ:C Nat)(ν:Nat)(i:Nat):Nat:=if i<G ρ then ρ.getD i 0 else ν+(i-G ρ)
def ru(σ:Nat->Nat)(m:Mem)(n:Nat):C Nat->Mem->Prop
 | [],[]=>True
 |l::ρ,F PE::m0=>m[l]?=F (F (o5 σ PE))/\(∀cs∈PE.es,∀p∈cs,fC V p/\AD n p=M)/\ru σ m n ρ m0
 |_,_=>False
def qO(σ:Nat->Nat):C Nat->Mem->Mem->Mem
 |l::ρ,r::m1,m=>qO σ ρ m1 (m.set l (r.map (o5 σ)))
 |_,_,m=>m
def kN(σ:Nat->Nat):Nat->Mem->Mem->Mem
 |_,[],m=>m
 |ν,F mb::m1,m=>kN σ (ν+1) m1 (qN m ν (o5 σ mb))
 |ν,X::m1,m=>kN σ (ν+1) m1 ((m++V9 (ν+1-G m) X).set ν X)
theorem vg{σ:Nat->Nat}{m:Mem}{n:Nat}:∀{ρ:C Nat} {m0:Mem},ru σ m n ρ m0->G ρ=G m0/\∀(i l:Nat),ρ[i]?=F l->∃PE:MB,m0[i]?=F (F PE)/\m[l]?=F (F (o5 σ PE))/\∀cs∈PE.es,∀p∈cs,fC V p/\AD n p=M
 | [],[],_=>⟨rfl,by simp⟩
 | [],_::_,h=>h.elim
 |_::_,[],h=>h.elim
 |l::ρ,X::m0,h=>h.elim
 |l::ρ,F PE::m0,h=>by
  obtain⟨h1,h2⟩:=vg h.2.2;refine⟨by grind,λi l' hi=>?_⟩
  cases i with
  |zero=>
   obtain rfl:l=l':=by grind
   exact⟨PE,rfl,h.1,h.2.1⟩
  |succ i=>grind
theorem Ji{σ:Nat->Nat}:∀(ρ:C Nat) (m1 m:Mem),G (qO σ ρ m1 m)=G m
 | [],_,_=>by rfl
 |_::_,[],_=>by rfl
 |l::ρ,r::m1,m=>by unfold qO;rw[Ji];simp
theorem GY{σ:Nat->Nat}:∀(ρ:C Nat) (m1 m:Mem) (l:Nat),l ∉ ρ->(qO σ ρ m1 m)[l]?=m[l]?
 | [],_,_,_,_=>by rfl
 |_::_,[],_,_,_=>by rfl
 |k::ρ,r::m1,m,l,hl=>by
  unfold qO;rw[GY ρ m1 _ l (λh=>hl (Wl _ h)),WB Y]
theorem Jh{σ:Nat->Nat}:∀(ρ:C Nat) (m1 m:Mem),ρ.Nodup->(∀l∈ρ,l<G m)->G ρ<=G m1->∀(i l:Nat),ρ[i]?=F l->(qO σ ρ m1 m)[l]?=(m1[i]?).map (Option.map (o5 σ))
 | [],_,_,_,_,_,_,_,h=>by grind
 |_::_,[],_,_,_,hl,_,_,_=>by grind
 |k::ρ,r::m1,m,hn,bD,hl,i,l,hi=>by
  unfold qO;rw[List.nodup_cons]at hn
  cases i with
  |zero=>
   obtain rfl:k=l:=by grind
   rw[GY ρ m1 _ k hn.1,WR (bD k Wo)];rfl
  |succ i=>
   rw[Jh ρ m1 _ hn.2 (λl' Sk=>by grind) Y i l Y]
   simp
theorem AO{σ:Nat->Nat}:∀(ν:Nat) (m1 m:Mem),G m<=G (kN σ ν m1 m)/\∀i,i<G m1->ν+i<G (kN σ ν m1 m)
 |ν,[],m=>by unfold kN;simp
 |ν,F mb::m1,m=>by
  unfold kN;obtain⟨h1,h2⟩:=AO (σ:=σ) (ν+1) m1 (qN m ν (o5 σ mb));rw[GD]at h1
  refine⟨YA,λi hi=>?_⟩
  cases i with
  |zero=>omega
  |succ i=>have:=h2 i Y;omega
 |ν,X::m1,m=>by
  unfold kN;obtain⟨h1,h2⟩:=AO (σ:=σ) (ν+1) m1 ((m++V9 (ν+1-G m) X).set ν X);simp at h1
  refine⟨YA,λi hi=>?_⟩
  cases i with
  |zero=>omega
  |succ i=>have:=h2 i Y;omega
theorem AN{σ:Nat->Nat}:∀(ν:Nat) (m1 m:Mem) (l:Nat) (mb:MB),(kN σ ν m1 m)[l]?=F (F mb)->(∃i UN,l=ν+i/\m1[i]?=F (F UN)/\mb=o5 σ UN)\/m[l]?=F (F mb)
 |ν,[],m,l,mb,h=>by unfold kN at h;grind
 |ν,F UN::m1,m,l,mb,h=>by
  rcases AN (σ:=σ) (ν+1) m1 _ l mb h with⟨i,mb2,rfl,h1,h2⟩ |h'
  ·grind
  ·by_cases hl:l=ν
   ·subst hl
    rw[wV]at h'
    grind
   ·exact .inr ((B6 hl).1 h')
 |ν,X::m1,m,l,mb,h=>by
  rcases AN (σ:=σ) (ν+1) m1 _ l mb h with⟨i,mb2,rfl,h1,h2⟩ |h'
  all_goals grind
def vU(m:Mem)(l:Nat):Bool:=match m[l]? with
 |some (F _)=>M
 |_=>V
theorem wS{m:Mem}:vU m l=M↔∃mb,m[l]?=F (F mb):=by
 unfold vU
 grind
theorem iA.renamed{w':World}{E' E2:Env}{σ:Nat->Nat}{flat:Bool}(h:iA w' E' mb B)(hg:∀cs∈mb.es,∀p∈cs,fC flat p\/mb.T.kd.isSome=M/\yE p=M)(Az:∀l B,E'.used l->E2.β (σ l)=F B->E'.β l=F B)(hu:∀l,E'.used l->E2.used (σ l))
 (hS:∀p x,(flat=M->Nz p=M)->eO w' E'.S p x->eO w' E2.S p x) (hω:∀b q,E'.ω b q->E2.ω b q/\E2.S b):iA w' E2 (o5 σ mb) B:=by
 refine⟨h.k,by rw[h.n];simp[o5,ux],h.T,h.pos,h.nc,h.cm,λi cs hi=>?_,λhz=>by simp[o5,ux,h.nil hz],λhz=>?_,λT hT hz i cs j es x hi hj gL hc=>?_⟩
 ·simp only[o5,ux,Wp]at hi
  obtain⟨cs0,h0,rfl⟩:=Wc.1 hi;rw[List.length_map];exact h.es i cs0 h0
 ·obtain⟨cells,m1,m2,m3⟩:=h.mem hz
  refine⟨cells,m1,m2,λi cs j p hi hj=>?_⟩
  simp only[o5,ux,Wp]at hi
  obtain⟨cs0,h0,rfl⟩:=Wc.1 hi;rw[Wp]at hj
  obtain⟨p0,hp0,rfl⟩:=Wc.1 hj;obtain⟨x,x1,x2,x3⟩:=m3 i cs0 j p0 h0 hp0
  rcases hg cs0 (VU h0) p0 (VU hp0)with hgg|⟨hgk,hgp⟩
  rotate_left
  ·refine⟨x,x1,x2,?_⟩
   cases p0 with
   |sl es=>
    cases x3 with
    |c hc=>
     refine .c (hc.key hgp λgL b off n c e=>?_)
     obtain⟨T,hT⟩:=Option.isSome_iff_exists.1 hgk;obtain⟨b',c',k',cs1,a1,a2,a3⟩:=h.key T hT hz i cs0 j es x h0 hp0 gL (by simp[World.cell?,m1,x1])
     grind
   |_=>simp[yE]at hgp
  refine⟨x,x1,x2,G6 Az hu hS x3 hgg (λcs e=>?_) (λcs e=>?_)⟩
  ·subst e;obtain⟨_,rfl,_⟩:=x3.si;simp[Value.oneCell']at x2
  ·subst e;obtain⟨_,rfl,_⟩:=x3.AX;simp[Value.oneCell']at x2
 ·simp only[o5,ux,Wp]at hi
  obtain⟨cs0,h0,rfl⟩:=Wc.1 hi;rw[Wp]at hj
  obtain⟨p0,hp0,he⟩:=Wc.1 hj;obtain rfl:=ZfS he;obtain⟨b,c,k,cs1,a1,a2,a3⟩:=h.key T hT hz i cs0 j es x h0 hp0 gL hc;exact⟨b,c,k,cs1,a1,(hω b _ a2).1,a3⟩
section
variable {w:World} {O:Nat->Prop} {E:Env} {w0:World} {m:Mem} {P:Program}
open Classical in
theorem Mr(hk:Ok w0 O E w m){ν:Nat}{f:FuncId}{qs:C PV}{vs:R Value}{ρ:C Nat}{m0 m1:Mem}{r:PV}{flat:Bool}{S:Nat->Prop}(hc:eh P f qs m0 r m1)(zr:∀i,i<G m1-G m0->¬E.used (ν+i))(hle:G m0<=G m1)
 (hl:vs.size=G qs) (hargs:∀β:Nat->N sx,(∀l B,β l=F B->E.β (sig ρ ν l)=F B)->∀(i:Nat) (p:PV),qs[i]?=F p->∃x,vs[i]?=F x/\eC w (E1 S β (G m0) E.ω) p x)
 (hn:ρ.Nodup) (xg:ru (sig ρ ν) m (G m0) ρ m0) (Sh:∀b,E.S b->S b) (LJ:flat=V->S=E.S) (LO:flat=M->m0=[]) (Zmb:∀b,S b->b<w.heap.size)
 (LR:∀mb,F mb∈m1->∀cs∈mb.es,∀p∈cs,fC flat p\/mb.T.kd.isSome=M/\yE p=M) (hr:s9 flat r):
 Calls P f vs w λe w'=>∃v E2,e=.returned v/\Ok w0 O E2 w' (kN (sig ρ ν) ν (m1.drop (G ρ)) (qO (sig ρ ν) ρ m1 m))/\Ext w w' E E2/\eC w' E2 (Ch (sig ρ ν) r) v/\∀l,E2.used l->E.used l\/(ν<=l/\l<ν+(G m1-G m0)):=by
 obtain⟨Zia,hρ⟩:=vg xg;have Ll:∀{i l},ρ[i]?=F l->sig ρ ν i=l:=λ{i l} h=>by
  have hi:i<G ρ:=(VT.1 h).1;unfold sig XN
  simp_all
 have wa:∀{i},i<G ρ->∃l,ρ[i]?=F l/\sig ρ ν i=l:=λ{i} hi=>⟨ρ[i],VS hi,Ll (VS hi)⟩
 have Rw:∀{i},¬i<G ρ->sig ρ ν i=ν+(i-G ρ):=λ{i} hi=>by simp[sig,hi]
 have Gk:∀{i},i<G m1->E.used (sig ρ ν i)->i<G ρ:=λ{i} hi hu=>by
  by_cases h:i<G ρ
  ·exact h
  ·rw[Rw h]at hu
   exact Zo hu (zr _ YA)
 have ZmL:∀l∈ρ,E.used l:=λl hl=>by
  obtain⟨i,hi⟩:=WL hl;obtain⟨PE,_,h2,_⟩:=hρ i l hi;exact nT hk h2
 have Lk:∀{i j},i<G m1->j<G m1->sig ρ ν i=sig ρ ν j->i=j:=by
  intro i j hi hj e
  by_cases h1:i<G ρ<;>by_cases h2:j<G ρ
  ·obtain⟨a,ha,ea⟩:=wa h1
   obtain⟨b,hb,eb⟩:=wa h2;have C2:a=b:=YA;subst C2;rw[VS h1,V8]at ha
   rw[VS h2,V8]at hb
   rcases WQ i j with h3|h3|h3
   ·exact Zo (ha.trans hb.symm) (Wr.1 hn i j h1 h2 h3)
   ·omega
   ·exact Zo (hb.trans ha.symm) (Wr.1 hn j i h2 h1 h3)
  all_goals grind
 -- the Zjv rows
 let β:Nat->N sx:=λi=>if i<G ρ then E.β (sig ρ ν i)else X
 have Ic:∀{i B},β i=F B->i<G ρ/\E.β (sig ρ ν i)=F B:=λ{i B} h=>by
  grind
 have hnS:∀l B,E.β l=F B->B.z=V->l∈ρ->¬S B.b:=λl B hB hz Zoc=>by
  cases flat with
  |false=>rw[LJ rfl];exact(hk.own l B hB hz).2.2
  |true=>
   simp_all
 have Zmv:Ok w (oW β) (E1 S β (G m0) E.ω) w m0:=by
  refine⟨Fs.refl _ _,Zmb,λl B hB hz=>?_,λl l' B B' hB ph hz xB e=>?_,λl hl=>hl,λl B hB=>?_,λl PE hm0=>?_,λl B hB=>?_,hk.Znk λb hb=>?_,λb q hq=>⟨Sh b (hk.ow b q hq).1,(hk.ow b q hq).2⟩⟩
  ·obtain⟨h1,h2⟩:=Ic hB
   obtain⟨a,ha,ea⟩:=wa h1;rw[ea]at h2
   exact⟨.inl ⟨l,B,hB,hz,rfl⟩,(hk.own a B h2 hz).2.1,hnS a B h2 hz (VU ha)⟩
  ·obtain⟨h1,h2⟩:=Ic hB
   obtain⟨h3,h4⟩:=Ic ph;exact Lk YA YA (hk.inj _ _ B B' h2 h4 hz xB e)
  ·have:=(Ic hB).1
   show l<G m0;omega
  ·have H9:l<G ρ:=by rw[Zia];grind
   obtain⟨a,ha,ea⟩:=wa H9;obtain⟨Zol,h1,h2,h3⟩:=hρ l a ha;rw[hm0]at h1
   simp only[V8]at h1
   subst h1;obtain⟨B,hB,hb⟩:=hk.mem a _ h2;refine⟨B,by simp only[E1,β];rw[if_pos H9,ea];exact hB,hb.k,by rw[hb.n];simp[o5,ux],hb.T,hb.pos,hb.nc,hb.cm,λi cs hi=>?_,λhz=>?_,λhz=>?_,λT hT hz i cs j es x hi hj gL hcx=>?_⟩
   ·have:=hb.es i (cs.map (uH (sig ρ ν))) (by simp[o5,ux,hi])
    simpa using this
   ·have:=hb.nil hz
    simpa[o5,ux]using this
   ·obtain⟨cells,m1',m2',m3'⟩:=hb.mem hz
    refine⟨cells,m1',m2',λi cs j p hi hj=>?_⟩
    obtain⟨x,x1,x2,x3⟩:=m3' i (cs.map (uH (sig ρ ν))) j (uH (sig ρ ν) p) (by simp[o5,ux,hi]) (by simp[hj])
    have vd:=h3 cs (VU hi) p (VU hj);refine⟨x,x1,x2,Lz (E:=E) (λl B hB=>(Ic hB).2) Sh x3 vd.1 vd.2 (λcs e=>?_) (λcs e=>?_)⟩
    ·subst e;obtain⟨_,rfl,_⟩:=eC.si x3;simp[Value.oneCell']at x2
    ·subst e;obtain⟨_,rfl,_⟩:=eC.AX x3;simp[Value.oneCell']at x2
   ·exact hb.key T hT hz i (cs.map (uH (sig ρ ν))) j es x (by simp[o5,ux,hi]) (by simp[hj,uH,x9]) gL hcx
  ·obtain⟨h1,h2⟩:=Ic hB
   obtain⟨a,ha,ea⟩:=wa h1;obtain⟨PE,h3,_⟩:=hρ l a ha;exact⟨PE,h3⟩
  ·obtain⟨l,B,hB,hz,rfl⟩:=hb
   obtain⟨h1,h2⟩:=Ic hB;exact(hk.own _ B h2 hz).1
 refine(hc S β w vs E.ω Zmv hl (hargs β λl B hB=>(Ic hB).2)).mono ?_
 rintro e w' ⟨v,E',rfl,hok,hSS,hSn,⟨ZmK,Zib⟩,wj⟩;have Zh6:∀{i},E'.used i->i<G m1:=λ{i} h=>hok.used i h
 -- the Zjw rows behind the call
 let m2:=kN (sig ρ ν) ν (m1.drop (G ρ)) (qO (sig ρ ν) ρ m1 m)
 let S2:Nat->Prop:=λb=>if flat then E.S b\/(w.heap.size<=b/\E'.S b)else E'.S b
 let β2:Nat->N sx:=λl=>if vU m2 l=M then(if h:∃i,i<G m1/\sig ρ ν i=l then E'.β (XP h)else E.β l)else X
 let E2:Env:={ S:=S2,β:=β2,used:=λl=>E.used l\/∃i,E'.used i/\sig ρ ν i=l,ω:=λb q=>E.ω b q\/E'.ω b q}
 have ZgW:∀l∈ρ,l<G m:=λl hl=>hk.used l (ZmL l hl)
 have zJ:∀{l mb},m2[l]?=F (F mb)->(∃i UN,i<G m1/\sig ρ ν i=l/\m1[i]?=F (F UN)/\mb=o5 (sig ρ ν) UN)\/(l ∉ ρ/\(¬ ∃i,i<G m1/\sig ρ ν i=l)/\m[l]?=F (F mb)):=by
  intro l mb h
  rcases AN _ _ _ _ _ h with⟨i,UN,rfl,h1,h2⟩ |h'
  ·rw[List.getElem?_drop]at h1
   refine .inl ⟨G ρ+i,UN,(VT.1 h1).1,?_,h1,h2⟩;rw[Rw YA];omega
  ·by_cases hl:l∈ρ
   ·obtain⟨i,hi⟩:=WL hl
    have CA:i<G ρ:=(VT.1 hi).1;rw[Jh ρ m1 m hn ZgW YA i l hi]at h'
    rw[VS (show i<G m1 by omega)]at h'
    simp only[WC,V8]at h'
    obtain⟨UN,h1,h2⟩:=Wc.1 h';exact .inl ⟨i,UN,YA,Ll hi,by rw[VS (show i<G m1 by omega),h1],h2.symm⟩
   ·rw[GY ρ m1 m l hl]at h'
    refine .inr ⟨hl,?_,h'⟩;rintro⟨i,hi,rfl⟩;have:=Gk hi (nT hk h');obtain⟨a,ha,ea⟩:=wa this;rw[ea]at hl
    exact hl (VU ha)
 have Av:∀{i} (hi:i<G m1) (h:∃j,j<G m1/\sig ρ ν j=sig ρ ν i),XP h=i:=λ{i} hi h=>Lk (Xe h).1 hi (Xe h).2
 have Nr:∀{l B},β2 l=F B->vU m2 l=M/\((∃i,i<G m1/\sig ρ ν i=l/\E'.β i=F B)\/((¬ ∃i,i<G m1/\sig ρ ν i=l)/\E.β l=F B)):=by
  intro l B h;simp only[β2]at h
  split at h
  ·rename_i vE
   refine⟨vE,?_⟩
   split at h
   ·rename_i hex
    exact .inl ⟨XP hex,(Xe hex).1,(Xe hex).2,h⟩
   ·rename_i hex
    exact .inr ⟨hex,h⟩
  ·cases h
 have IP:∀b,b<w.heap.size->¬oW β b->w'.heap[b]?=w.heap[b]?:=λb hb hn=>hok.up.block b hb hn
 have Aa:∀b,oW β b->∃l B,l∈ρ/\E.β l=F B/\B.z=V/\B.b=b:=by
  rintro b ⟨l,B,hB,hz,rfl⟩;obtain⟨h1,h2⟩:=Ic hB;obtain⟨a,ha,ea⟩:=wa h1;exact⟨a,B,VU ha,by rw[<-ea];exact h2,hz,rfl⟩
 have ZjV:∀b,S2 b->E'.S b:=λb hb=>by
  simp only[S2]at hb
  split at hb
  ·rcases hb with hb|hb
   ·exact hSS b (Sh b hb)
   ·exact hb.2
  ·exact hb
 have ZjU:∀b,S2 b->E.S b\/w.heap.size<=b\/oW β b:=λb hb=>by
  simp only[S2]at hb
  split at hb
  ·exact hb.imp id λh=>.inl h.1
  ·rename_i hf
   rcases hSn b hb with h|h|h
   ·rw[LJ (by simpa using hf)]at h;exact .inl h
   ·exact .inr (.inl h)
   ·exact .inr (.inr h)
 have ZbP:∀b,oW β b->oW E.β b:=λb ho=>by
  obtain⟨l,B,_,hB,hz,rfl⟩:=Aa b ho;exact⟨l,B,hB,hz,rfl⟩
 have hSE:∀b,E.S b->S2 b:=λb hb=>by
  simp only[S2]
  split
  ·exact .inl hb
  ·exact hSS b (Sh b hb)
 have hx:Ext w w' E E2:=by
  refine⟨hSE,λb o hb=>cell_of_heap (IP b (hk.sz b hb) λho=>?_),λl B hl hB=>?_,λl hl=>.inl hl,λb hb=>(ZjU b hb).imp id λh=>h.imp id (ZbP b),λb ho=>?_,hok.up.size,λb q hq=>⟨.inl hq,IP b (hk.sz b (hk.ow b q hq).1) λho=>(by obtain⟨l,B,_,hB,hz,rfl⟩:=Aa b ho;exact(hk.own l B hB hz).2.2 (hk.ow _ q hq).1)⟩,λb q hq=>(by rcases hq with h|h;exact .inl h;exact(Zib b q h).imp id λh=>h.imp id (ZbP b))⟩
  ·obtain⟨l,B,_,hB,hz,rfl⟩:=Aa b ho
   exact(hk.own l B hB hz).2.2 hb
  ·rcases(Nr hB).2 with⟨i,hi,rfl,ph⟩ |⟨_,ph⟩
   ·have bD:=Gk hi hl
    obtain⟨h1,h2⟩:=Ic (ZmK i B YA ph);exact h2
   ·exact ph
  ·obtain⟨l,B,hB,hz,rfl⟩:=ho
   rcases(Nr hB).2 with⟨i,hi,_,ph⟩ |⟨_,ph⟩
   ·rcases(hok.own i B ph hz).1 with h|h
    ·exact .inl (ZbP _ h)
    ·exact .inr h
   ·exact .inl ⟨l,B,ph,hz,rfl⟩
 have Zko:∀l B,E'.used l->E2.β (sig ρ ν l)=F B->E'.β l=F B:=by
  intro l B hl hB
  rcases(Nr hB).2 with⟨i,hi,he,ph⟩ |⟨zZ,_⟩
  ·rw[<-Lk hi (Zh6 hl) he];exact ph
  ·exact Zo ⟨l,Zh6 hl,rfl⟩ zZ
 have ZgT:∀p x,(flat=M->Nz p=M)->eO w' E'.S p x->eO w' E2.S p x:=by
  intro p x hp h
  cases hf:flat with
  |true=>exact h.flat (hp hf)
  |false=>exact h.all λb hb=>by simp only[E2,S2,hf];exact hb
 have Zkh:∀b q q',E.ω b q->E'.ω b q'->q'=q:=λb q q' h h'=>by
  rcases Zib b q' h' with h1|h1|h1
  ·exact(hk.ow b q h).2 q' h1
  ·have:=hk.sz b (hk.ow b q h).1;omega
  ·obtain⟨l,B,_,hB,hz,rfl⟩:=Aa b h1
   exact Zo (hk.ow _ q h).1 (hk.own l B hB hz).2.2
 have Zkv:∀b q,E'.ω b q->E2.S b:=λb q h=>by
  have h0:=(hok.ow b q h).1;simp only[E2,S2]
  split
  ·rename_i hf
   rcases Zib b q h with h1|h1|h1
   ·exact .inl (hk.ow b q h1).1
   ·exact .inr ⟨h1,h0⟩
   ·obtain⟨l,B,hl,_⟩:=Aa b h1
    have:=LO hf;rw[this]at Zia
    rw[List.length_eq_zero_iff.1 Zia]at hl
    cases hl
  ·exact h0
 have how:∀b q,E2.ω b q->E2.S b/\∀q',E2.ω b q'->q'=q:=λb q hq=>by
  rcases hq with h|h
  ·refine⟨hSE b (hk.ow b q h).1,λq' hq'=>?_⟩
   rcases hq' with h'|h'
   ·exact(hk.ow b q h).2 q' h'
   ·exact Zkh b q q' h h'
  ·refine⟨Zkv b q h,λq' hq'=>?_⟩
   rcases hq' with h'|h'
   ·exact(Zkh b q' q h' h).symm
   ·exact(hok.ow b q h).2 q' h'
 refine⟨v,E2,rfl,⟨?_,λb hb=>hok.sz b (ZjV b hb),λl B hB hz=>?_,λl l' B B' hB ph hz xB e=>?_,λl hl=>?_,λl B hB=>?_,λl mb CB=>?_,λl B hB=>wS.1 (Nr hB).1,hk.JC,how⟩,hx,
  ZcZ (flat:=flat) Zko (λl hl=>.inr ⟨l,hl,rfl⟩) ZgT wj hr,λl hl=>?_⟩
 ·refine hk.up.trans hok.up λb hb ho=>?_
  obtain⟨l,B,_,hB,hz,rfl⟩:=Aa b ho
  rcases(hk.own l B hB hz).1 with h|h
  ·exact h
  ·omega
 ·rcases(Nr hB).2 with⟨i,hi,rfl,ph⟩ |⟨zZ,ph⟩
  ·obtain⟨h1,h2,h3⟩:=hok.own i B ph hz
   refine⟨?_,h2,λhS=>h3 (ZjV _ hS)⟩
   rcases h1 with h1|h1
   ·obtain⟨l,B1,_,Au,PC,e1⟩:=Aa _ h1
    rw[<-e1];exact(hk.own l B1 Au PC).1
   ·exact .inr (by have:=hk.up.size;omega)
  ·obtain⟨h1,h2,h3⟩:=hk.own l B ph hz
   refine⟨h1,by have:=hok.up.size;omega,λhS=>?_⟩
   rcases ZjU _ hS with h|h|h
   ·exact h3 h
   ·omega
   ·obtain⟨l3,B3,hl3,hB3,hz3,e3⟩:=Aa _ h
    have:=hk.inj l3 l B3 B hB3 ph hz3 hz e3;subst this;obtain⟨j,hj⟩:=WL hl3;have EZ:j<G ρ:=(VT.1 hj).1;exact zZ ⟨j,YA,Ll hj⟩
 ·have ZgM:∀{i l2 B1 B2},i<G m1->E'.β i=F B1->(¬ ∃j,j<G m1/\sig ρ ν j=l2)->E.β l2=F B2->B1.z=V->B2.z=V->B1.b=B2.b->False:=by
   intro i l2 B1 B2 hi Au zZ hB2 PC IQ e
   rcases(hok.own i B1 Au PC).1 with h|h
   ·obtain⟨l3,B3,hl3,hB3,hz3,e3⟩:=Aa _ h
    have:=hk.inj l3 l2 B3 B2 hB3 hB2 hz3 IQ (e3.trans e);subst this;obtain⟨j,hj⟩:=WL hl3;have EZ:j<G ρ:=(VT.1 hj).1;exact zZ ⟨j,YA,Ll hj⟩
   ·have:=(hk.own l2 B2 hB2 IQ).2.1
    omega
  rcases(Nr hB).2 with⟨i,hi,rfl,h1⟩ |⟨zZ,h1⟩<;>rcases(Nr ph).2 with⟨i',od,rfl,h2⟩ |⟨ZbO,h2⟩
  ·rw[hok.inj i i' B B' h1 h2 hz xB e]
  ·exact(ZgM hi h1 ZbO h2 hz xB e).elim
  ·exact(ZgM od h2 zZ h1 xB hz e.symm).elim
  ·exact hk.inj l l' B B' h1 h2 hz xB e
 ·obtain⟨g1,g2⟩:=AO (σ:=sig ρ ν) ν (m1.drop (G ρ)) (qO (sig ρ ν) ρ m1 m)
  rw[Ji]at g1
  show l<G (kN (sig ρ ν) ν (m1.drop (G ρ)) (qO (sig ρ ν) ρ m1 m))
  rcases hl with hl|⟨i,hi,rfl⟩
  ·have:=hk.used l hl;omega
  ·have od:=Zh6 hi
   by_cases h:i<G ρ
   ·obtain⟨a,ha,ea⟩:=wa h
    rw[ea];have:=ZgW a (VU ha);omega
   ·rw[Rw h]
    exact g2 _ YL
 ·rcases(Nr hB).2 with⟨i,hi,rfl,h1⟩ |⟨zZ,h1⟩
  ·exact .inr ⟨i,hok.bu i B h1,rfl⟩
  ·exact .inl (hk.bu l B h1)
 ·have vE:vU m2 l=true:=wS.2 ⟨mb,CB⟩
  rcases zJ CB with⟨i,UN,hi,rfl,h1,rfl⟩ |⟨hl,zZ,h1⟩
  ·obtain⟨B,hB,hb⟩:=hok.mem i UN h1
   have hex:∃j,j<G m1/\sig ρ ν j=sig ρ ν i:=⟨i,hi,rfl⟩;refine⟨B,?_,hb.renamed (flat:=flat) (LR UN (VU h1)) Zko (λl hl=>.inr ⟨l,hl,rfl⟩) ZgT λb q hq=>⟨.inr hq,Zkv b q hq⟩⟩
   simp only[E2,β2,vE,if_true,hex,dif_pos];rw[Av hi];exact hB
  ·obtain⟨B,hB,hb⟩:=hk.mem l mb h1
   refine⟨B,by simp only[E2,β2,vE,if_true];rw[dif_neg zZ];exact hB,hb.ext hx λhz=>IP _ (hk.own l B hB hz).2.1 λho=>?_⟩
   obtain⟨l3,B3,hl3,hB3,hz3,e3⟩:=Aa _ ho;exact hl (hk.inj l3 l B3 B hB3 hB hz3 hz e3▸hl3)
 grind
def Uy:PV->Bool
 |.ag cs=>cs.all uQ
 |.tu _=>V
 |p=>uQ p
def rN(P:Program)(io:Bool)(wd ν:Nat)(f:FuncId)(ps:C PV)(m:Mem)(K:PV->Mem->Prop):Prop:=
 (∃r m1,Cl m ps (λqs=>eh P f qs [] r m1)/\(G m1)<=wd/\(∀mb,F mb∈m1->∀cs∈mb.es,∀p∈cs,fC M p\/mb.T.kd.isSome=M/\yE p=M)/\s9 M r/\K (Ch (sig [] ν) r) (kN (sig [] ν) ν m1 m))\/
 ∃(ρ:C Nat) (m0:Mem) (qs:C PV) (r:PV) (m1:Mem),(io=M\/ρ=[])/\eh P f qs m0 r m1/\(G m0)<=G m1/\(G m1)-G m0<=wd/\ps=qs.map (Cg (sig ρ ν))/\(∀q∈qs,vP V q/\Kx (G m0) q=M)/\ρ.Nodup/\ru (sig ρ ν) m (G m0) ρ m0/\
  (∀mb,F mb∈m1->∀cs∈mb.es,∀p∈cs,fC V p)/\s9 V r/\K (Ch (sig ρ ν) r) (kN (sig ρ ν) ν (m1.drop (G ρ)) (qO (sig ρ ν) ρ m1 m))
theorem Ob(hk:Ok w0 O E w m){io:Bool}{wd ν:Nat}(zr:∀i,i<wd->¬E.used (ν+i)){f:FuncId}{ps:C PV}{vs:R Value}(hl:vs.size=G ps)(hr:∀(j:Nat) (p:PV) (x:Value),ps[j]?=F p->vs[j]?=F x->eC w E p x){K:PV->Mem->Prop}(h:rN P io wd ν f ps m K):
 ∃r m',K r m'/\Calls P f vs w λe w'=>∃v E',e=.returned v/\Ok w0 O E' w' m'/\Ext w w' E E'/\eC w' E' r v/\∀l,E'.used l->E.used l\/(ν<=l/\l<ν+wd):=by
 rcases h with⟨r,m1,hs,C9,LR,Qc,hK⟩ |⟨ρ,m0,qs,r,m1,_,hc,hle,C9,Qj,hqs,hn,xg,LR,Qc,hK⟩
 ·refine⟨_,_,hK,?_⟩
  obtain⟨ds,hc,hdl,hd⟩:=Jt hk ps vs.toList _ YA (λj p x hp hx=>hr j p x hp Y) hs
  have xh:∀b,Zar E b->b<w.heap.size:=by
   rintro b (h|⟨l,B,hB,hz,rfl⟩)
   ·exact hk.sz b h
   ·exact(hk.own l B hB hz).2.1
  refine(Mr (ρ:=[]) (flat:=M) hk hc (λi hi=>zr i YA) (Ws _) YA (λβ _ i p hp=>?_) List.nodup_nil trivial (λb hb=>.inl hb) (λh=>by cases h) (λ_=>rfl) xh LR Qc).mono ?_
  ·have hi:i<vs.size:=by grind
   exact⟨vs[i],V4 hi,hd i p _ hp YE _ _ _⟩
  ·rintro e w' ⟨v,E2,he,h1,h2,h3,h4⟩
   exact⟨v,E2,he,h1,h2,h3,λl hl=>(h4 l hl).imp id λh=>⟨h.1,YA⟩⟩
 ·refine⟨_,_,hK,?_⟩
  have hql:vs.size=G qs:=by grind
  refine(Mr (ρ:=ρ) (flat:=V) (S:=E.S) hk hc (λi hi=>zr i YA) hle hql (λβ Az i p hp=>?_) hn xg (λb hb=>hb) (λ_=>rfl) (λh=>by cases h) hk.sz (λmb h cs hc p hp=>.inl (LR mb h cs hc p hp)) Qc).mono ?_
  ·have hi:i<vs.size:=by grind
   have hg:=hqs p (VU hp);exact⟨vs[i],V4 hi,Zgz Az (λb hb=>hb) (hr i (Cg (sig ρ ν) p) _ Y (V4 hi)) hg.1 hg.2⟩
  grind
end
end Go.Proofs.YtbjbellffaenaaaGreatDoor
namespace Go.Proofs.YtbjbellffaenaaaGreatDoor
open Go.RowKit
variable {T:TypeId}{a:Act}{b io:Bool}{d:N Tmp}{f:FuncId}{j l s:Nat}{p:PV}{ps:C PV}{q:Nat×N MB}{tm:R Value}{x:Operand}
def wk (P : Program) (f : FuncId) : Prop := ∃ fn, P.funcs[f]? = F fn /\ fn.body.isSome = M /\ (fn.name == "runtime.NumGoroutine") = V
def kb(P:Program)(io:Bool)(wd ν:Nat)(o:Op)(t:C PV)(m:Mem)(K:PV->Mem->Prop):Prop:=
 match o with
 |.alloc T=>Ds ν m T (pz P T) K
 |.box T x=>Ds ν m T (pc (W t x)) K
 |.buildSlice T n ps=>o4 P ν m T n (ps.toList.map λq=>(q.1,W t q.2)) K
 |.makeSlice T l c=>yO P ν m T (W t l) (W t c) K
 |.store T a x=>yP P m T (W t a) (W t x) K
 |.call c=>match c.callee with
  |.builtin .append=>match c.args.toList,c.argTypes.toList with
   | [s,x],[T,T']=>T=T'/\ix P ν m T (W t s) (W t x) K
   |_,_=>False
  |.value (.func f)=>wk P f/\rN P io wd ν f (c.args.toList.map (W t)) m K
  |.value (.tmp i)=>match t.getD i .un with
   |.fn f cs=>(∀c∈cs,Gq c=M)/\wk P f/\rN P io wd ν f (c.args.toList.map (W t)++cs) m K
   |_=>False
  |_=>su P o t m λp=>K p m
 |_=>su P o t m λp=>K p m
def gate(c:Bool)(y n:Prop):Prop:=(c=M->y)/\(c=V->n)
def ki(t:C PV)(d:N Tmp)(p:PV):C PV:=
 match d with
 |some d=>t.set d p
 |none=>t
def vK(P:Program)(ops:R Oper)(K:C PV->Mem->Prop):C Oper->C PV->Mem->Prop
 | [],t,m=>K t m
 |o::rest,t,m=>match o.guard with
  |none=>kb P M 16 (G m) o.op t m λp m'=>vK P ops K rest (ki t o.dst p) m'
  |some (j,b)=>match(ops[j]?).bind (·.dst)with
   |none=>vK P ops K rest (ki t o.dst .ud) m
   |some d=>match t.getD d .un,b with
    |.v (.bool c),M=>gate c (kb P M 16 (G m) o.op (t.set d (.v (.bool M))) m λp m'=>vK P ops K rest (ki (t.set d (.v (.bool M))) o.dst p) m') (vK P ops K rest (ki (t.set d (.v (.bool V))) o.dst .ud) m)
    |.v (.bool c),V=>gate c (vK P ops K rest (ki (t.set d (.v (.bool M))) o.dst .ud) m) (kb P M 16 (G m) o.op (t.set d (.v (.bool V))) m λp m'=>vK P ops K rest (ki (t.set d (.v (.bool V))) o.dst p) m')
    |.ud,_=>vK P ops K rest (ki t o.dst .ud) m
    |_,_=>False
section
variable {w:World} {O:Nat->Prop} {E:Env} {w0:World} {m:Mem} {P:Program}
def L0(P:Program)(w0:World)(O:Nat->Prop)(E:Env)(w:World)(wd ν:Nat)(a:Act)(o:Oper)(p:PV)(m':Mem):Prop:=
 ∀(K:Act->World->Prop) (Q:Exit->Act->World->Prop),(∀x w' E',Ok w0 O E' w' m'->Ext w w' E E'->eC w' E' p x->(∀l,E'.used l->E.used l\/(ν<=l/\l<ν+wd))->K (a.put o.dst x) w')->o.wp P a w K Q
theorem BE{wd ν:Nat}(C9:0<wd){o:Oper}{s:Sem Value}{m':Mem}(he:execOp a.eval o=do pure (Next.value (<-s)))(h:yc P w0 O E w ν s p m'):L0 P w0 O E w wd ν a o p m':=by
 obtain⟨x,w',E',kZ,h1,h2,h3,h4⟩:=h;intro K Q hK;unfold Oper.wp;rw[he,Zg5 kZ];exact hK x w' E' h1 h2 h3 λl hl=>(h4 l hl).imp id λh=>YA
theorem ZeD{wd ν:Nat}(hk:Ok w0 O E w m){o:Oper}(h:PJ P E w a o p):L0 P w0 O E w wd ν a o p m:=by
 obtain⟨x,kZ,h3⟩:=h;intro K Q hK;unfold Oper.wp;rw[kZ];exact hK x w E hk (Ext.refl w E) h3 λl hl=>.inl hl
theorem F9 {wd ν : Nat} (hk : Ok w0 O E w m) (zr : ∀ i, i < wd -> ¬ E.used (ν + i)) {t : C PV} {o : Oper} {vs : R Value} (hf : wk P f) (kZ : ∀ fn, P.funcs[f]? = F fn -> fn.body.isSome = M -> (fn.name == "runtime.NumGoroutine") = V -> (execOp a.eval o).run P w = .ok (.enter f vs) w)
 (hl:vs.size=G ps) (hr:∀(j:Nat) (p:PV) (x:Value),ps[j]?=F p->vs[j]?=F x->eC w E p x) {K:PV->Mem->Prop} (h:rN P io wd ν f ps m K):∃p m',K p m'/\L0 P w0 O E w wd ν a o p m':=by
 obtain⟨fn,hf,Zbz,ZbN⟩:=hf;obtain⟨p,m',hK,ZjY⟩:=Ob (P:=P) hk zr hl hr h;refine⟨p,m',hK,λK Q hKK=>?_⟩
 unfold Oper.wp;rw[kZ fn hf Zbz ZbN,Oper.upon_enter];refine ZjY.mono ?_
 grind
theorem ZaE{t:C PV}(ev:∀o:Operand,eC w E (W t o) (a.eval o))(args:R Operand)(j:Nat)(p:PV)(x:Value)(hp:(args.toList.map (W t))[j]?=F p)(hx:(args.map a.eval)[j]?=F x):eC w E p x:=by
 grind
theorem GW(hk:Ok w0 O E w m){wd ν:Nat}(C9:0<wd)(zr:∀i,i<wd->¬E.used (ν+i)){t:C PV}(ht:ue w E t a.tmps){o:Oper}{K:PV->Mem->Prop}(h:kb P io wd ν o.op t m K):∃p m',K p m'/\L0 P w0 O E w wd ν a o p m':=by
 have ev:=BC ht;have ZbT:¬E.used ν:=zr 0 C9;have red:su P o.op t m (λp=>K p m)->∃p m',K p m'/\L0 P w0 O E w wd ν a o p m':=λh=>by
  obtain⟨p,hK,hg⟩:=Rc hk ht h;exact⟨p,m,hK,ZeD hk hg⟩
 unfold kb at h
 split at h
 ·rename_i T ho
  obtain⟨p,m',hK,hg⟩:=KM (P:=P) hk ZbT h;exact⟨p,m',hK,BE C9 YO hg⟩
 ·rename_i T x ho
  obtain⟨p,m',hK,hg⟩:=QN (P:=P) hk ZbT (ev x) h;exact⟨p,m',hK,BE C9 YO hg⟩
 ·rename_i T n ps ho
  obtain⟨p,m',hK,hg⟩:=Cb (P:=P) hk ZbT (vs:=ps.map fun(i,x)=>(i,a.eval x)) YE (λj i p hj=>by
   grind) h
  exact⟨p,m',hK,BE C9 YO hg⟩
 ·rename_i T l c ho
  obtain⟨p,m',hK,hg⟩:=Oe (P:=P) hk ZbT (ev l) (ev c) h;exact⟨p,m',hK,BE C9 YO hg⟩
 ·rename_i T x y ho
  obtain⟨m',hK,w',kZ,h1,h2⟩:=KW (P:=P) hk (ev x) (ev y) h;refine⟨_,m',hK,λK Q hKK=>?_⟩
  unfold Oper.wp;simp only[execOp,ho,Sem.run_bind,kZ,Result.andThen_ok,Sem.run_pure];exact hKK Zj w' E h1 h2 (.c .ud) λl hl=>.inl hl
 ·rename_i c ho
  split at h
  ·rename_i hc
   split at h
   ·rename_i s x T T' hx hT
    obtain⟨rfl,h⟩:=h;obtain⟨callee,args,argTypes⟩:=c;have ha:=zk hx;have hTs:=zk hT;simp only at hc ha hTs
    subst hc ha hTs;obtain⟨p,m',hK,hg⟩:=Ih (P:=P) (ty:=o.type) hk ZbT (ev s) (ev x) h;refine⟨p,m',hK,BE C9 ?_ hg⟩;simp[execOp,ho,resolve,invoke,builtin]
   simp_all
  ·rename_i f hc
   obtain⟨hf,h⟩:=h;obtain⟨callee,args,argTypes⟩:=c;simp only at hc h
   subst hc;refine F9 hk zr (t:=t) (vs:=args.map a.eval) hf (λfn hf Zbz ZbN=>?_) YE (ZaE ev args) h
   have Qf : (fn.name = "runtime.NumGoroutine") = False := by simp_all
   have ZhY:(fn.body=X)=False:=by
    grind
   simp[execOp,ho,resolve,invoke,Act.eval,callFunc,Deferred.ofValue,hf,Qf,ZhY]
  ·rename_i i hc
   split at h
   ·rename_i f cs hti
    obtain⟨_,hf,h⟩:=h;obtain⟨callee,args,argTypes⟩:=c;simp only at hc h
    subst hc;have hv:=ev (.tmp i);simp only[W,hti]at hv
    obtain⟨us,hus,hul,hur⟩:=hv.Kd;refine F9 hk zr (t:=t) (vs:=args.map a.eval++us) hf (λfn hf Zbz ZbN=>?_) Y (λj p x hp hx=>?_) h
    ·have Qf : (fn.name = "runtime.NumGoroutine") = False := by simp_all
     have ZhY:(fn.body=X)=False:=by
      grind
     simp[execOp,ho,resolve,invoke,hus,callFunc,Deferred.ofValue,hf,Qf,ZhY]
    grind
   simp_all
  simp_all
 simp_all
theorem ue.ext{w':World}{E':Env}{t:C PV}{tm:R Value}(h:ue w E t tm)(hx:Ext w w' E E'):ue w' E' t tm:=⟨h.1,λi p hp=>(h.2 i p hp).ext hx⟩
theorem ue.put{t:C PV}{a:Act}(h:ue w E t a.tmps){p:PV}{x:Value}(hp:eC w E p x)(d:N Tmp):ue w E (ki t d p) (a.put d x).tmps:=by
 cases d with
 |none=>exact h
 |some d=>
  refine⟨by simp[Act.put,ki,h.1],λi q hq=>?_⟩
  simp only[ki]at hq
  simp only[Act.put]
  by_cases e:d=i
  ·subst e
   have hd:d<G t:=by grind
   rw[WR hd]at hq
   cases hq
   have:(a.tmps.setIfInBounds d x).getD d Zj=x:=by simp[X8,h.1,hd]
   grind
  ·rw[WB e]at hq
   have:(a.tmps.setIfInBounds d x).getD i Zj=a.tmps.getD i Zj:=by
    simp_all
   rw[this];exact h.2 i q hq
theorem ue.bool{t:C PV}{tm:R Value}(h:ue w E t tm){d:Nat}{c:Bool}(hc:t.getD d .un=.v (.bool c)):ue w E (t.set d (.v (.bool c))) tm:=by
 refine⟨by simp[h.1],λi q hq=>?_⟩
 by_cases e:d=i
 ·subst e
  have hd:d<G t:=by grind
  rw[WR hd]at hq
  cases hq
  refine h.2 d _ ?_
  simp_all
 ·rw[WB e]at hq
  exact h.2 i q hq
theorem Gc{o:Oper}(h:o.guard=X)(y:Nat->N Bool):Region.wanted o y=true:=by simp[Region.wanted,h]
theorem M5{ops:R Oper}{o:Oper}(h:o.guard=F (j,b))(hd:(ops[j]?).bind (·.dst)=X)(tm:R Value):Region.wanted o (yielded ops tm)=false:=by
 simp[Region.wanted,h,yielded,hd]
theorem xA{ops:R Oper}{o:Oper}{j d:Nat}{b c:Bool}(h:o.guard=F (j,b))(hd:(ops[j]?).bind (·.dst)=F d){t:C PV}(ht:ue w E t tm)(hc:t.getD d .un=.v (.bool c)):Region.wanted o (yielded ops tm)=(c==b):=by
 have bD:d<G t:=by
  grind
 have wj:=ht.2 d _ (VS bD);have hda:d<tm.size:=by rw[ht.1];omega
 have e1:tm.getD d Zj=tm[d]:=by simp_all
 have e2:t.getD d .un=t[d]:=by simp_all
 rw[e1,<-e2,hc]at wj
 have:=wj.jw.1;simp only[Region.wanted,h,yielded,hd,VR,V4 hda,this];rfl
theorem M6{ops:R Oper}{o:Oper}{j d:Nat}(h:o.guard=F (j,b))(hd:(ops[j]?).bind (·.dst)=F d){t:C PV}(ht:ue w E t tm)(hc:t.getD d .un=.ud):Region.wanted o (yielded ops tm)=false:=by
 have bD:d<G t:=by
  grind
 have wj:=ht.2 d _ (VS bD);have hda:d<tm.size:=by rw[ht.1];omega
 have e1:tm.getD d Zj=tm[d]:=by simp_all
 have e2:t.getD d .un=t[d]:=by simp_all
 rw[e1,<-e2,hc]at wj
 have hu:tm[d]=Zj:=by
  generalize tm[d]=z at wj
  cases wj with
  |c h=>cases h;rfl
 simp only[Region.wanted,h,yielded,hd,VR,V4 hda,hu];rfl
theorem AM{ops:R Oper}{K:C PV->Mem->Prop}{Q:Exit->Act->World->Prop}:∀(l:C Oper) (t:C PV) (m:Mem) (E:Env) (w:World) (a:Act),Ok w0 O E w m->a.defers=[]->ue w E t a.tmps->vK P ops K l t m->
 (∀t m E' w' (a':Act),K t m->Ok w0 O E' w' m->Ext w w' E E'->a'.defers=[]->ue w' E' t a'.tmps->Q .normal a' w')->wpList P ops Q l a w
 | [],t,m,E,w,a,hk,hd,ht,h,hQ=>hQ t m E w a h hk (Ext.refl w E) hd ht
 |o::l,t,m,E,w,a,hk,hd,ht,h,hQ=>by
  have hdd:∀x,(a.put o.dst x).defers=[]:=λx=>by cases o.dst<;>exact hd
  have run:∀t',ue w E t' a.tmps->Region.wanted o (yielded ops a.tmps)=M->kb P M 16 (G m) o.op t' m (λp m'=>vK P ops K l (ki t' o.dst p) m')->wpList P ops Q (o::l) a w:=by
   intro t' HQ hw h;obtain⟨p,m',hK,hg⟩:=GW hk YA (λi _ hu=>by have:=hk.used _ hu;omega) HQ h
   unfold wpList;rw[if_pos hw];exact .inl (hg _ _ λx w' E' h1 h2 h3 _=>AM l _ m' E' w' _ h1 (hdd x) ((HQ.ext h2).put h3 o.dst) hK λt m E2 w2 a2 k1 k2 k3=>hQ t m E2 w2 a2 k1 k2 (h2.trans k3))
  have pass:∀t',ue w E t' a.tmps->Region.wanted o (yielded ops a.tmps)=V->vK P ops K l (ki t' o.dst .ud) m->wpList P ops Q (o::l) a w:=by
   intro t' HQ hw h;unfold wpList;rw[hw,if_neg YE];exact AM l _ m E w _ hk (hdd _) (HQ.put (.c .ud) o.dst) h hQ
  simp only[vK]at h
  split at h
  ·rename_i hg;exact run t ht (Gc hg _) h
  ·rename_i j b hg
   split at h
   ·rename_i H6;exact pass t ht (M5 hg H6 _) h
   ·rename_i d H6
    split at h
    ·rename_i c hc
     have hb:=xA hg H6 ht hc
     cases c with
     |true=>exact run _ (ht.bool hc) hb (h.1 rfl)
     |false=>exact pass _ (ht.bool hc) hb (h.2 rfl)
    ·rename_i c hc
     have hb:=xA hg H6 ht hc
     cases c with
     |true=>exact pass _ (ht.bool hc) hb (h.1 rfl)
     |false=>exact run _ (ht.bool hc) hb (h.2 rfl)
    ·rename_i hc;exact pass t ht (M6 hg H6 ht hc) h
    simp_all
end
def rn:PV->C Nat
 |.ms l=>[l]
 |.ss l _ _=>[l]
 |.be l _ _=>[l]
 |_=>[]
def qa:PV->C Nat
 |.fn _ cs=>cs.flatMap rn
 |p=>rn p
def rP:PV->C Nat
 |.ag cs=>cs.flatMap qa
 |p=>qa p
def kc:PV->C Nat
 |.tu vs=>vs.flatMap rP
 |p=>rP p
def opM:Op->Bool
 |.move _|.assign _|.extract ..=>V
 |_=>M
def opR(o:Op)(t:C PV):C Nat:=match opM o with
 |true=>o.operands.toList.flatMap λx=>kc (W t x)
 |false=>[]
def opW(o:Op)(t:C PV)(wd ν:Nat):C Nat:=
 match o with
 |.alloc _=>[ν]
 |.box _ _=>[ν]
 |.buildSlice _ _ _=>[ν]
 |.makeSlice _ _ _=>[ν]
 |.store _ a _=>kc (W t a)
 |.call c=>match c.callee with
  |.builtin .append=>ν::(c.args.toList.take 1).flatMap λx=>kc (W t x)
  |.builtin _=>[]
  |_=>XM ν wd
 |_=>[]
abbrev Upd:=C (Nat×N MB)
def tn(m:Mem)(q:Nat×N MB):Mem:=(m++V9 (q.1+1-G m) X).set q.1 q.2
def app(u:Upd)(m:Mem):Mem:=u.foldl tn m
theorem xm{m:Mem}(h:l<G m)(x:N MB):app [(l,x)] m=m.set l x:=by
 simp only[app,Wq,Wm,tn];rw[show l+1-G m=0 by omega];simp
def look(m:Mem)(l:Nat):N MB:=(m[l]?).join
theorem kj{m:Mem}{mb:MB}:look m l=F mb↔m[l]?=F (F mb):=by
 unfold look
 grind
theorem oC{m:Mem}(K:MB->Prop):Z m l K=match look m l with
 |some mb=>K mb
 |none=>False:=by
 unfold look Z
 grind
structure Same(o:Op)(t:C PV)(m:Mem)(t2:C PV)(m2:Mem):Prop where
 te:∀x∈o.operands.toList,W t2 x=W t x
 me:∀l∈opR o t,look m2 l=look m l
section
variable {P:Program} {m m2:Mem} {t t2:C PV} {o:Op}
theorem Same.refs(h:Same o t m t2 m2)(hm:opM o=M)(hx:x∈o.operands.toList)(hl:l∈kc (W t x)):look m2 l=look m l:=h.me l (by unfold opR;grind)
theorem lL(h:look m2 l=look m l)(K:MB->Prop):Z m2 l K=Z m l K:=by rw[oC,oC,h]
theorem Vq(h:∀l∈kc p,look m2 l=look m l):PG m2 p=PG m p:=by
 cases p with
 |be l i o=>
  have e:=h l YQ;have key:∀m:Mem,PG m (.be l i o)=(look m l).bind λmb=>(mb.es[i]?).map (·.drop o):=by
   intro m;unfold look PG
   cases h:m[l]? with
   |none=>grind
   |some x=>cases x<;>simp[h]
  simp_all
 |_=>rfl
theorem QS(h:∀l∈kc p,look m2 l=look m l):Ii m2 p=Ii m p:=by
 funext K
 cases p with
 |be l i o=>simp only[Ii,lL (h l YQ)]
 |_=>rfl
theorem KP{S D:TypeId}(h:∀l∈kc p,look m2 l=look m l):uh P m2 S D p=uh P m S D p:=by
 funext K
 cases p with
 |ms l=>simp only[uh,lL (h l YQ)]
 |_=>rfl
theorem KU{lo hi:N PV}(h:∀l∈kc p,look m2 l=look m l):mw P m2 T p lo hi=mw P m T p lo hi:=by
 funext K
 cases p with
 |ms l=>
  have e:=lL (m:=m) (m2:=m2) (h l YQ)
  cases hu:P.underlying T with
  |none=>simp only[mw,hu]
  |some d=>cases d<;>simp only[mw,hu,e]
 |ss l a b=>
  have e:=lL (m:=m) (m2:=m2) (h l YQ)
  cases hu:P.underlying T with
  |none=>simp only[mw,hu]
  |some d=>cases d<;>simp only[mw,hu,e]
 |v x=>
  unfold mw
  grind
 |_=>
  unfold mw
  cases hu:P.underlying T with
  |none=>rfl
  |some d=>cases d<;>rfl
theorem Dt{f:Nat}(h:∀l∈kc p,look m2 l=look m l):mv P m2 T p f=mv P m T p f:=by
 funext K
 cases p with
 |be l i o=>
  have e:=lL (m:=m) (m2:=m2) (h l YQ);simp only[mv,e]
 |_=>rfl
theorem Dv{p q:PV}(h:∀l∈kc p,look m2 l=look m l):dh P m2 T p q=dh P m T p q:=by
 funext K
 cases p with
 |ms l=>
  have e:=lL (m:=m) (m2:=m2) (h l YQ);simp only[dh,e]
 |ss l a b=>
  have e:=lL (m:=m) (m2:=m2) (h l YQ);simp only[dh,e]
 |_=>rfl
theorem QP(h:∀l∈kc p,look m2 l=look m l):zR P m2 T p=zR P m T p:=by
 funext K
 cases p with
 |ms l=>
  have e:=lL (m:=m) (m2:=m2) (h l YQ)
  cases hu:P.underlying T with
  |none=>simp only[zR,hu]
  |some d=>cases d<;>simp only[zR,hu,e]
 |ss l a b=>
  have e:=lL (m:=m) (m2:=m2) (h l YQ)
  cases hu:P.underlying T with
  |none=>simp only[zR,hu]
  |some d=>cases d<;>simp only[zR,hu,e]
 |v x=>
  unfold zR
  grind
 |_=>
  unfold zR
  cases hu:P.underlying T with
  |none=>rfl
  |some d=>cases d<;>rfl
theorem O1(h:∀l∈kc p,look m2 l=look m l):rR m2 p=rR m p:=by
 cases p with
 |ms l=>
  have e:=h l YQ;have key:∀m:Mem,rR m (.ms l)=(look m l).map (·.es):=by
   intro m;unfold look rR
   cases h:m[l]? with
   |none=>grind
   |some x=>cases x<;>simp[h]
  simp_all
 |ss l a b=>
  have e:=h l YQ;have key:∀m:Mem,rR m (.ss l a b)=(look m l).map λmb=>(mb.es.drop a).take (b-a):=by
   intro m;unfold look rR
   cases h:m[l]? with
   |none=>grind
   |some x=>cases x<;>simp[h]
  simp_all
 |v x=>cases x<;>first|rfl|(rename_i A n c;cases A<;>first|rfl|(cases n<;>rfl))
 |_=>rfl
theorem yU(h:∀l∈qa p,look m2 l=look m l):Cm m2 p=Cm m p:=by
 funext K
 cases p with
 |ms l=>simp only[Cm];rw[lL (h l (by simp[qa,rn]))]
 |ss l a b=>simp only[Cm];rw[lL (h l (by simp[qa,rn]))]
 |_=>rfl
theorem El:∀{cs:C PV},(∀l∈cs.flatMap qa,look m2 l=look m l)->Hj m2 cs=Hj m cs
 | [],_=>by rfl
 |c::cs,h=>by
  funext K
  simp only[Hj];rw[yU λl hl=>h l Y,El λl hl=>h l (by
   simp_all)]
theorem OW(h:∀l∈kc p,look m2 l=look m l):Hk m2 p=Hk m p:=by
 funext K
 cases p with
 |ag cs=>simp only[Hk];rw[El λl hl=>h l hl]
 |tu vs=>rfl
 |v x=>rfl
 |ud=>rfl
 |un=>rfl
 |sl es=>rfl
 |rp cs=>rfl
 |ms l=>exact Zp (yU (p:=.ms l) λl hl=>h l hl) K
 |ss l a b=>exact Zp (yU (p:=.ss l a b) λl hl=>h l hl) K
 |be l i o=>rfl
 |fn f cs=>rfl
theorem Ek:∀{cs:C PV},(∀l∈cs.flatMap kc,look m2 l=look m l)->Cl m2 cs=Cl m cs
 | [],_=>by rfl
 |c::cs,h=>by
  funext K
  simp only[Cl];rw[OW λl hl=>h l Y,Ek λl hl=>h l (by
   simp_all)]
theorem map_congr{xs:C Operand}(h:∀x∈xs,W t2 x=W t x):xs.map (W t2)=xs.map (W t):=WG h
theorem Rb(h:Same o t m t2 m2):su P o t2 m2=su P o t m:=by
 have hr:=fun(hm:opM o=M) {x:Operand} (hx:x∈o.operands.toList)=>(λl (hl:l∈kc (W t x))=>h.refs hm hx hl)
 have ht:=λ{x:Operand} (hx:x∈o.operands.toList)=>h.te x hx
 funext K
 cases o with
 |move x=>simp only[su];rw[ht YI]
 |assign x=>simp only[su];rw[ht YI]
 |pick c a b=>simp only[su];rw[ht (x:=c) YI,ht (x:=a) YI,ht (x:=b) YI]
 |load T x=>simp only[su];rw[ht (x:=x) YI,Vq (hr rfl (x:=x) YI)]
 |nilCheck x=>simp only[su];rw[ht (x:=x) YI,QS (hr rfl (x:=x) YI)]
 |binOp op T x y Ty=>simp only[su];rw[ht (x:=x) YI,ht (x:=y) YI]
 |unOp op T x=>simp only[su];rw[ht (x:=x) YI]
 |convert S D x=>simp only[su];rw[ht (x:=x) YI,KP (hr rfl (x:=x) YI)]
 |makeFunc fn first cs=>
  simp only[su];rw[map_congr λx hx=>ht (x:=x) (by simp only[Op.operands,XO,We];simp_all)]
 |slice T x lo hi mx=>
  cases mx with
  |some _=>rfl
  |none=>
   simp only[su];rw[ht (x:=x) YI,KU (hr rfl (x:=x) YI)];have e1:lo.map (W t2)=lo.map (W t):=by
    cases lo with
    |none=>rfl
    |some z=>simp only[WC];rw[ht (x:=z) YI]
   have e2:hi.map (W t2)=hi.map (W t):=by
    cases hi with
    |none=>rfl
    |some z=>simp only[WC];rw[ht (x:=z) YI]
   simp_all
 |fieldAddr S x f=>simp only[su];rw[ht (x:=x) YI,Dt (hr rfl (x:=x) YI)]
 |field T x f=>simp only[su];rw[ht (x:=x) YI]
 |indexAddr T x i=>simp only[su];rw[ht (x:=x) YI,ht (x:=i) YI,Dv (hr rfl (x:=x) YI)]
 |index T x i=>simp only[su];rw[ht (x:=x) YI,ht (x:=i) YI]
 |extract x i=>simp only[su];rw[ht (x:=x) YI]
 |build T ps=>
  simp only[su];have:(ps.toList.map λq=>(q.1,W t2 q.2))=ps.toList.map λq=>(q.1,W t q.2):=WG λq hq=>by
   rw[ht (x:=q.2) (by simp only[Op.operands];grind)]
  grind
 |call c=>
  have ha:∀x∈c.args.toList,x∈(Op.call c).operands.toList:=λx hx=>by
   simp only[Op.operands,Call.operands,XO,We];simp_all
  simp only[su];have e:=map_congr (xs:=c.args.toList) λx hx=>ht (ha x hx)
  split
  ·split
   ·rename_i x T hx hT
    have xi:x∈c.args.toList:=by simp_all
    rw[ht (ha x xi),QP (hr rfl (ha x xi))]
   rfl
  all_goals grind
 |_=>rfl
theorem ZcJ{K:PV->Prop}(h:su P o t m K):∃p,K p/\su P o t m λp'=>p'=p:=by
 have L:∀{T:TypeId} {cs:N (C PV)} {K:PV->Prop},uw P T cs K->∃p,K p/\uw P T cs λp'=>p'=p:=by
  intro T cs K h;unfold uw at *
  split at h
  all_goals grind
 have Lv:∀{l:Nat} {A:MB->Prop},Z m l A->∃mb,m[l]?=F (F mb)/\A mb:=λh=>jR h
 have Lw:∀{l:Nat} {A:MB->Prop} {mb:MB},m[l]?=F (F mb)->A mb->Z m l A:=by
  intro l A mb h1 h2;unfold Z
  simp_all
 unfold su at *
 split at h<;>(try exact h.elim)
 ·simp_all
 ·simp_all
 ·grind
 ·grind
 ·unfold Ii at *
  grind
 ·unfold Oa at *
  split at h
  ·rename_i h1 h2
   unfold KH at *
   grind
  ·rename_i h1 h2
   unfold ya at *
   grind
  simp_all
 ·unfold pUn at *
  grind
 ·unfold uh at *
  split at h
  ·rename_i h1
   split at h
   all_goals grind
  ·rename_i h0
   have key:∀{S D:TypeId} {x:PV} {K:PV->Prop},GK P S D x K->∃p,K p/\GK P S D x λp'=>p'=p:=by
    intro S D x K h;unfold GK at *
    grind
   simp_all
 ·grind
 ·split at h
  ·unfold mw at *
   split at h
   all_goals grind
  simp_all
 ·unfold mv at *
  split at h
  ·rename_i h1
   split at h
   all_goals grind
  simp_all
 ·unfold yN at *
  grind
 ·unfold dh at *
  split at h
  all_goals grind
 ·unfold vv at *
  grind
 ·unfold Od at *
  grind
 ·unfold yM at *
  split at h
  all_goals grind
 ·split at h
  ·rename_i hc
   split at h
   ·rename_i h1 h2
    unfold zR at *
    grind
   simp_all
  ·rename_i hc
   unfold sU at *
   grind
  ·rename_i hc
   unfold sU at *
   grind
  simp_all
end
section
variable {P:Program} {m m2:Mem} {t t2:C PV} {o:Op}
def xQ(σ:Nat->Nat):Nat->Mem->Upd
 |_,[]=>[]
 |ν,x::m1=>(ν,x.map (o5 σ))::xQ σ (ν+1) m1
theorem sw(σ:Nat->Nat):∀(ν:Nat) (m1 m:Mem),kN σ ν m1 m=app (xQ σ ν m1) m
 |ν,[],m=>by rfl
 |ν,F mb::m1,m=>by unfold kN;rw[sw σ (ν+1) m1];rfl
 |ν,X::m1,m=>by unfold kN;rw[sw σ (ν+1) m1];rfl
theorem xR(σ:Nat->Nat):∀(ν:Nat) (m1:Mem) (q:Nat×N MB),q∈xQ σ ν m1->ν<=q.1/\q.1<ν+G m1
 |ν,[],q,h=>by simp[xQ]at h
 |ν,x::m1,q,h=>by
  simp only[xQ,VY]at h
  rcases h with rfl|h
  ·simp
  ·have:=xR σ (ν+1) m1 q h
   grind
theorem mem_range'{ν k n:Nat}:k∈XM ν n↔ν<=k/\k<ν+n:=List.mem_range'_1
theorem Eh{wd ν:Nat}{K:PV->Mem->Prop}(h:rN P V wd ν f ps m K):
 ∃p u,K p (app u m)/\(∀q∈u,q.1∈XM ν wd)/\∀m2,(∀l∈ps.flatMap kc,look m2 l=look m l)->rN P V wd ν f ps m2 λp' m'=>p'=p/\m'=app u m2:=by
 rcases h with⟨r,m1,hs,h16,LR,Qc,hK⟩ |⟨ρ,m0,qs,r,m1,LP,hc,hle,h16,Qj,hqs,hn,xg,LR,Qc,hK⟩
 ·refine⟨Ch (sig [] ν) r,xQ (sig [] ν) ν m1,by rw[<-sw];omega,λq hq=>?_,λm2 CB=>.inl ⟨r,m1,by rw[Ek CB];omega,h16,LR,Qc,rfl,sw _ _ _ _⟩⟩
  rw[mem_range'];have:=xR _ _ _ q hq;omega
 ·obtain rfl:ρ=[]:=by simp_all
  have h0:m0=[]:=by
   have:=(vg xg).1
   grind
  subst h0;simp only[V2,Yg,qO]at hK
  refine⟨Ch (sig [] ν) r,xQ (sig [] ν) ν m1,by rw[<-sw];omega,λq hq=>?_,λm2 CB=>.inr ⟨[],[],qs,r,m1,.inr rfl,hc,hle,h16,Qj,hqs,hn,trivial,LR,Qc,rfl,?_⟩⟩
  ·rw[mem_range']
   have:=xR _ _ _ q hq
   grind
  ·simp only[V2,Yg,qO];exact sw _ _ _ _
theorem Q7{wd ν:Nat}{K:PV->Mem->Prop}(h:kb P V wd ν o t m K):
 ∃p u,K p (app u m)/\(∀q∈u,q.1∈opW o t wd ν)/\∀t2 m2,Same o t m t2 m2->kb P V wd ν o t2 m2 λp' m'=>p'=p/\m'=app u m2:=by
 have red:∀{K:PV->Prop},su P o t m K->∃p,K p/\∀t2 m2,Same o t m t2 m2->su P o t2 m2 λp'=>p'=p:=by
  intro K h;obtain⟨p,h1,h2⟩:=ZcJ h;exact⟨p,h1,λt2 m2 hs=>by rw[Rb hs];omega⟩
 have imp:∀{t2 m2 p},su P o t2 m2 (λp'=>p'=p)->su P o t2 m2 λp'=>p'=p/\m2=app [] m2:=by
  intro t2 m2 p h;have:(λp'=>p'=p/\m2=app [] m2)=λp'=>p'=p:=by funext p';simp[app]
  simp_all
 cases o with
 |alloc T=>
  simp only[kb]at *
  unfold Ds at *
  split at h
  ·rename_i c cs hz
   exact⟨_,[(ν,F _)],h,by simp[opW],λt2 m2 _=>by simp only[hz];exact⟨trivial,rfl⟩⟩
  simp_all
 |box T x=>
  simp only[kb]at *
  unfold Ds at *
  split at h
  ·rename_i c cs hz
   exact⟨_,[(ν,F _)],h,by simp[opW],λt2 m2 hs=>by rw[hs.te x YI];simp only[hz];exact⟨trivial,rfl⟩⟩
  simp_all
 |buildSlice T n ps=>
  simp only[kb]at *
  have e:∀{t2 m2},Same (.buildSlice T n ps) t m t2 m2->(ps.toList.map λq=>(q.1,W t2 q.2))=ps.toList.map λq=>(q.1,W t q.2):=λhs=>WG λq hq=>by
   rw[hs.te q.2 (by simp only[Op.operands];grind)]
  unfold o4 at *
  split at h
  ·rename_i e1 hu
   split at h
   ·rename_i zc hz
    obtain⟨h1,h2,h3,h⟩:=h
    split at h
    ·rename_i cs hf
     exact⟨_,[(ν,F _)],h,by simp[opW],λt2 m2 hs=>by rw[e hs];simp only[hu,hz,hf];exact⟨h1,h2,h3,trivial,rfl⟩⟩
    simp_all
   simp_all
  simp_all
 |makeSlice T l c=>
  simp only[kb]at *
  unfold yO at *
  split at h
  ·rename_i e n n' hu hl hc
   split at h
   ·rename_i zc hz
    obtain⟨h1,h2,h3,h4,h5,h6,h⟩:=h;exact⟨_,[(ν,F _)],h,by simp[opW],λt2 m2 hs=>by
     rw[hs.te l YI,hs.te c YI];simp only[hu,hl,hc,hz];exact⟨h1,h2,h3,h4,h5,h6,trivial,rfl⟩⟩
   simp_all
  simp_all
 |store T x y=>
  simp only[kb]at *
  unfold yP at *
  split at h
  ·rename_i l i o qs hx hq
   obtain⟨mb,hm,h⟩:=jR h
   split at h
   ·rename_i cs tv
    obtain⟨h1,h2,h3,h⟩:=h;have hl:l<G m:=(VT.1 hm).1;refine⟨_,[(l,F _)],by rw[xm hl];exact h,by simp[opW,hx,kc,rP,qa,rn],λt2 m2 hs=>?_⟩
    have CB:m2[l]?=F (F mb):=kj.1 ((hs.refs rfl (x:=x) YI (by simp[hx,kc,rP,qa,rn])).trans (kj.2 hm))
    rw[hs.te x YI,hs.te y YI];simp only[hx,hq,Z,CB,tv];exact⟨h1,h2,h3,trivial,(xm (VT.1 CB).1 _).symm⟩
   simp_all
  simp_all
 |call c=>
  have ha:∀x∈c.args.toList,x∈(Op.call c).operands.toList:=λx hx=>by
   simp only[Op.operands,Call.operands,XO,We];simp_all
  have ZbL:∀{t2 m2},Same (.call c) t m t2 m2->c.args.toList.map (W t2)=c.args.toList.map (W t):=λhs=>map_congr λx hx=>hs.te x (ha x hx)
  have hrefs:∀{t2 m2},Same (.call c) t m t2 m2->∀l∈(c.args.toList.map (W t)).flatMap kc,look m2 l=look m l:=λhs l hl=>by
   simp only[WY,List.mem_map]at hl
   obtain⟨p,⟨x,hx,rfl⟩,hl⟩:=hl;exact hs.refs rfl (ha x hx) hl
  simp only[kb]at *
  split at h
  ·rename_i hc
   split at h
   ·rename_i s x T T' hx hT
    obtain⟨hTT,h⟩:=h;have hs':s∈c.args.toList:=by simp_all
    have xi:x∈c.args.toList:=by simp_all
    have hrw:∀{t2 m2},Same (.call c) t m t2 m2->W t2 s=W t s/\W t2 x=W t x/\rR m2 (W t x)=rR m (W t x):=λhs=>⟨hs.te s (ha s hs'),hs.te x (ha x xi),O1 λl hl=>hs.refs rfl (ha x xi) hl⟩
    unfold ix at h
    split at h
    ·rename_i e hu
     split at h
     ·rename_i zc es hz zq
      obtain⟨h1,h2,h3,h⟩:=h
      split at h
      ·rename_i l Ax
       obtain⟨mb,hm,g1,g2,g3,g4,h⟩:=jR h;have hl:l<G m:=(VT.1 hm).1;refine⟨_,[(l,X),(ν,F _)],by simp only[app,Wq,Wm];rw[show tn m (l,X)=m.set l X from xm hl X];exact h,?_,λt2 m2 hs=>?_⟩
       ·intro q hq
        simp only[opW,hc,VY,V1,or_false]at hq⊢
        rcases hq with rfl|rfl
        ·exact .inr (WY.2 ⟨s,by simp_all,by simp[Ax,kc,rP,qa,rn]⟩)
        omega
       ·obtain⟨e1,e2,e3⟩:=hrw hs
        have CB:m2[l]?=F (F mb):=kj.1 ((hs.refs rfl (ha s hs') (by simp[Ax,kc,rP,qa,rn])).trans (kj.2 hm))
        refine⟨hTT,?_⟩;unfold ix;rw[e1,e2];simp only[hu,hz,e3,zq,Ax,Z,CB];refine⟨h1,h2,h3,g1,g2,g3,g4,trivial,?_⟩;simp only[app,Wq,Wm];rw[show tn m2 (l,X)=m2.set l X from xm (VT.1 CB).1 X];rfl
      ·rename_i l a b Ax
       obtain⟨h0,h⟩:=h;obtain⟨mb,hm,g1,g2,g5,g3,g4,h⟩:=jR h;have hl:l<G m:=(VT.1 hm).1;refine⟨_,[(l,X),(ν,F _)],by simp only[app,Wq,Wm];rw[show tn m (l,X)=m.set l X from xm hl X];exact h,?_,λt2 m2 hs=>?_⟩
       ·intro q hq
        simp only[opW,hc,VY,V1,or_false]at hq⊢
        rcases hq with rfl|rfl
        ·exact .inr (WY.2 ⟨s,by simp_all,by simp[Ax,kc,rP,qa,rn]⟩)
        omega
       ·obtain⟨e1,e2,e3⟩:=hrw hs
        have CB:m2[l]?=F (F mb):=kj.1 ((hs.refs rfl (ha s hs') (by simp[Ax,kc,rP,qa,rn])).trans (kj.2 hm))
        refine⟨hTT,?_⟩;unfold ix;rw[e1,e2];simp only[hu,hz,e3,zq,Ax,Z,CB];refine⟨h1,h2,h3,h0,g1,g2,g5,g3,g4,trivial,?_⟩;simp only[app,Wq,Wm];rw[show tn m2 (l,X)=m2.set l X from xm (VT.1 CB).1 X];rfl
      ·rename_i Ax
       obtain⟨g3,g4,h⟩:=h;refine⟨_,[(ν,F _)],h,by simp[opW,hc],λt2 m2 hs=>?_⟩
       obtain⟨e1,e2,e3⟩:=hrw hs;refine⟨hTT,?_⟩;unfold ix;rw[e1,e2];simp only[hu,hz,e3,zq,Ax];exact⟨h1,h2,h3,g3,g4,trivial,rfl⟩
      simp_all
     simp_all
    simp_all
   simp_all
  ·rename_i f hc
   obtain⟨hf,h⟩:=h;obtain⟨p,u,h1,h2,h3⟩:=Eh h;refine⟨p,u,h1,by simp only[opW,hc];omega,λt2 m2 hs=>⟨hf,?_⟩⟩
   grind
  ·rename_i i hc
   have hi:Operand.tmp i∈(Op.call c).operands.toList:=by simp[Op.operands,Call.operands,hc]
   split at h
   ·rename_i f cs hti
    obtain⟨hR,hf,h⟩:=h;obtain⟨p,u,h1,h2,h3⟩:=Eh h;refine⟨p,u,h1,by simp only[opW,hc];omega,λt2 m2 hs=>?_⟩
    have e1:=hs.te _ hi;simp only[W,hti]at e1
    rw[e1,ZbL hs];refine⟨hR,hf,h3 m2 λl hl=>?_⟩
    rw[List.flatMap_append,We]at hl
    rcases hl with hl|hl
    ·grind
    ·have hfn:W t (.tmp i)=.fn f cs:=hti
     refine hs.refs rfl hi ?_;rw[hfn];simp only[kc,rP,qa];obtain⟨c1,Ge,hl1⟩:=WY.1 hl;refine WY.2 ⟨c1,Ge,?_⟩;have hR1:=hR c1 Ge
     cases c1<;>first|exact hl1|simp[Gq]at hR1
   simp_all
  ·obtain⟨p,h1,h2⟩:=red h
   exact⟨p,[],h1,by simp,λt2 m2 hs=>imp (h2 t2 m2 hs)⟩
 |_=>
  simp only[kb]at *
  obtain⟨p,h1,h2⟩:=red h;exact⟨p,[],h1,by simp,λt2 m2 hs=>imp (h2 t2 m2 hs)⟩
end
/-! Zlh. -/
theorem Bf(m:Mem)(q:Nat×N MB)(l:Nat):(tn m q)[l]?=if l=q.1 then F q.2 else if l<G m then m[l]? else if l<q.1+1 then F X else none:=by
 unfold tn
 grind
theorem ZaC(m:Mem)(q:Nat×N MB):G (tn m q)=max (G m) (q.1+1):=by simp[tn];omega
theorem TJ(m:Mem){q r:Nat×N MB}(h:q.1≠r.1):tn (tn m q) r=tn (tn m r) q:=by
 apply XZ;intro l;simp only[Bf,ZaC]
 grind
theorem Md{q:Nat×N MB}:∀(u:Upd) (m:Mem),(∀r∈u,q.1≠r.1)->app u (tn m q)=tn (app u m) q
 | [],m,_=>rfl
 |r::u,m,h=>by
  show app u (tn (tn m q) r)=tn (app u (tn m r)) q;rw[TJ m (h r Wo),Md u _ λr' PA=>h r' (Wl _ PA)]
theorem Me:∀(u v:Upd) (m:Mem),(∀q∈u,∀r∈v,q.1≠r.1)->app v (app u m)=app u (app v m)
 | [],v,m,_=>rfl
 |q::u,v,m,h=>by
  show app v (app u (tn m q))=app u (tn (app v m) q);rw[Me u v _ λq' hq' r hr=>h q' (Wl _ hq') r hr,Md v m λr hr=>h q Wo r hr]
theorem Dg{m:Mem}(h:q.1≠l):look (tn m q) l=look m l:=by
 unfold look;rw[Bf,if_neg (λe=>h e.symm)]
 grind
theorem Ez{m m':Mem}(h:look m l=look m' l):look (tn m q) l=look (tn m' q) l:=by
 by_cases e:q.1=l
 ·unfold look
  rw[Bf,Bf,if_pos e.symm,if_pos e.symm]
 ·rw[Dg e,Dg e,h]
theorem yH{l:Nat}:∀(u:Upd) {m m':Mem},look m l=look m' l->look (app u m) l=look (app u m') l
 | [],_,_,h=>h
 |q::u,_,_,h=>yH u (Ez h)
theorem Gz{l:Nat}:∀(u:Upd) (m:Mem),(∀q∈u,q.1≠l)->look (app u m) l=look m l
 | [],_,_=>rfl
 |q::u,m,h=>(Gz u _ λr hr=>h r (Wl _ hr)).trans (Dg (h q Wo))
/-! The state behind the Zix of L. -/
structure RA where
 d:N Tmp
 p:PV
 u:Upd
def yW(L:Nat->Bool):Nat->C RA->C PV->C PV
 |_,[],t=>t
 |i,a::as_,t=>yW L (i+1) as_ (if L i=M then ki t a.d a.p else t)
def stM(L:Nat->Bool):Nat->C RA->Mem->Mem
 |_,[],m=>m
 |i,a::as_,m=>stM L (i+1) as_ (if L i=M then app a.u m else m)
theorem ZcN(t:C PV)(d:N Tmp)(p:PV):G (ki t d p)=G t:=by cases d<;>simp[ki]
theorem Vh{t t':C PV}(hl:G t=G t')(h:t.getD s .un=t'.getD s .un):(ki t d p).getD s .un=(ki t' d p).getD s .un:=by
 cases d with
 |none=>exact h
 |some d=>
  simp only[ki,XN,List.getElem?_set,hl]
  grind
theorem SN{t:C PV}(h:d≠F s):(ki t d p).getD s .un=t.getD s .un:=by
 cases d with
 |none=>rfl
 |some d=>
  have:d≠s:=λe=>h Zb
  simp only[ki,XN,WB this]
theorem Vg{t:C PV}{d e:N Tmp}{p q:PV}(h:d=X\/d≠e):ki (ki t d p) e q=ki (ki t e q) d p:=by
 cases d with
 |none=>rfl
 |some d=>
  cases e with
  |none=>rfl
  |some e=>
   have:d≠e:=λh'=>by simp_all
   simp only[ki];exact List.set_comm _ _ this
theorem JA{L L':Nat->Bool}{s:Nat}:∀(as_:C RA) (i:Nat) (t t':C PV),G t=G t'->t.getD s .un=t'.getD s .un->(∀k a,as_[k]?=F a->L (i+k)≠L' (i+k)->a.d≠F s)->(yW L i as_ t).getD s .un=(yW L' i as_ t').getD s .un
 | [],_,_,_,_,h,_=>h
 |a::as_,i,t,t',hl,h,hd=>by
  simp only[yW];have h0:=hd 0 a rfl;simp only[W8]at h0
  refine JA as_ (i+1) _ _ ?_ ?_ λk b hk gL=>hd (k+1) b YG Y
  ·split<;>split<;>simp[ZcN,hl]
  ·cases h1:L i<;>cases h2:L' i<;>simp only[WJ,if_false,if_true]
   ·exact h
   ·rw[SN (h0 YG)];exact h
   ·rw[SN (h0 YG)];exact h
   ·exact Vh hl h
theorem Jz{L L':Nat->Bool}{l:Nat}:∀(as_:C RA) (i:Nat) (m m':Mem),look m l=look m' l->(∀k a,as_[k]?=F a->L (i+k)≠L' (i+k)->∀q∈a.u,q.1≠l)->look (stM L i as_ m) l=look (stM L' i as_ m') l
 | [],_,_,_,h,_=>h
 |a::as_,i,m,m',h,hd=>by
  simp only[stM];have h0:=hd 0 a rfl;simp only[W8]at h0
  refine Jz as_ (i+1) _ _ ?_ λk b hk gL=>hd (k+1) b YG Y
  cases h1:L i<;>cases h2:L' i<;>simp only[WJ,if_false,if_true]
  ·exact h
  ·rw[Gz _ _ (h0 YG)];exact h
  ·rw[Gz _ _ (h0 YG)];exact h
  ·exact yH _ h
theorem Hr{L:Nat->Bool}{d:N Tmp}{p:PV}:∀(as_:C RA) (i:Nat) (t:C PV),(∀k a,as_[k]?=F a->L (i+k)=M->d=X\/d≠a.d)->yW L i as_ (ki t d p)=ki (yW L i as_ t) d p
 | [],_,_,_=>rfl
 |a::as_,i,t,h=>by
  simp only[yW];have h0:=h 0 a rfl;simp only[W8]at h0
  cases h1:L i
  ·simp only[WJ,if_false]
   exact Hr as_ (i+1) t λk b hk hL=>h (k+1) b YG Y
  ·simp only[if_true]
   rw[Vg (h0 h1)];exact Hr as_ (i+1) _ λk b hk hL=>h (k+1) b YG Y
theorem Hp{L:Nat->Bool}{u:Upd}:∀(as_:C RA) (i:Nat) (m:Mem),(∀k a,as_[k]?=F a->L (i+k)=M->∀q∈u,∀r∈a.u,q.1≠r.1)->stM L i as_ (app u m)=app u (stM L i as_ m)
 | [],_,_,_=>rfl
 |a::as_,i,m,h=>by
  simp only[stM];have h0:=h 0 a rfl;simp only[W8]at h0
  cases h1:L i
  ·simp only[WJ,if_false]
   exact Hp as_ (i+1) m λk b hk hL=>h (k+1) b YG Y
  ·simp only[if_true]
   rw[Me u a.u m (h0 h1)];exact Hp as_ (i+1) _ λk b hk hL=>h (k+1) b YG Y
def ins(L:Nat->Bool)(j:Nat):Nat->Bool:=λi=>if i=j then M else L i
theorem RC{L L':Nat->Bool}:∀(as_:C RA) (i:Nat) (t:C PV),(∀k,k<G as_->L (i+k)=L' (i+k))->yW L i as_ t=yW L' i as_ t
 | [],_,_,_=>rfl
 |a::as_,i,t,h=>by
  simp only[yW];have h0:=h 0 YE;simp only[W8]at h0
  rw[h0];exact RC as_ (i+1) _ λk hk=>by rw[show i+1+k=i+(k+1)by omega];simp_all
theorem RB{L L':Nat->Bool}:∀(as_:C RA) (i:Nat) (m:Mem),(∀k,k<G as_->L (i+k)=L' (i+k))->stM L i as_ m=stM L' i as_ m
 | [],_,_,_=>rfl
 |a::as_,i,m,h=>by
  simp only[stM];have h0:=h 0 YE;simp only[W8]at h0
  rw[h0];exact RB as_ (i+1) _ λk hk=>by rw[show i+1+k=i+(k+1)by omega];simp_all
theorem Tb{L:Nat->Bool}{a0:RA}:∀(as_:C RA) (i k0:Nat) (t:C PV),as_[k0]?=F a0->L (i+k0)=V->(∀k a,as_[k]?=F a->k0<k->L (i+k)=M->a0.d=X\/a0.d≠a.d)->yW (ins L (i+k0)) i as_ t=ki (yW L i as_ t) a0.d a0.p
 | [],_,_,_,h,_,_=>by grind
 |a::as_,i,k0,t,h,hL,hd=>by
  simp only[yW]
  cases k0 with
  |zero=>
   obtain rfl:a=a0:=by simp_all
   simp only[W8]at hL⊢
   have ei:ins L i i=true:=by simp[ins]
   simp only[ei,if_true,hL,WJ,if_false];have e:yW (ins L i) (i+1) as_ (ki t a.d a.p)=yW L (i+1) as_ (ki t a.d a.p):=RC as_ (i+1) _ λk hk=>by simp only[ins];grind
   rw[e];exact Hr as_ (i+1) t λk b hk hb=>hd (k+1) b YG YA Y
  |succ k0=>
   have e1:ins L (i+(k0+1)) i=L i:=by simp only[ins];simp
   rw[e1,show i+(k0+1)=i+1+k0 by omega]
   exact Tb as_ (i+1) k0 _ YG Y λk b hk bD hb=>hd (k+1) b YG YA Y
theorem Ta{L:Nat->Bool}{a0:RA}:∀(as_:C RA) (i k0:Nat) (m:Mem),as_[k0]?=F a0->L (i+k0)=V->(∀k a,as_[k]?=F a->k0<k->L (i+k)=M->∀q∈a0.u,∀r∈a.u,q.1≠r.1)->stM (ins L (i+k0)) i as_ m=app a0.u (stM L i as_ m)
 | [],_,_,_,h,_,_=>by grind
 |a::as_,i,k0,m,h,hL,hd=>by
  simp only[stM]
  cases k0 with
  |zero=>
   obtain rfl:a=a0:=by simp_all
   simp only[W8]at hL⊢
   have ei:ins L i i=true:=by simp[ins]
   simp only[ei,if_true,hL,WJ,if_false];have e:stM (ins L i) (i+1) as_ (app a.u m)=stM L (i+1) as_ (app a.u m):=RB as_ (i+1) _ λk hk=>by simp only[ins];grind
   rw[e];exact Hp as_ (i+1) m λk b hk hb=>hd (k+1) b YG YA Y
  |succ k0=>
   have e1:ins L (i+(k0+1)) i=L i:=by simp only[ins];simp
   rw[e1,show i+(k0+1)=i+1+k0 by omega]
   exact Ta as_ (i+1) k0 _ YG Y λk b hk bD hb=>hd (k+1) b YG YA Y
/-! The check: RL is not ordered is apart. -/
structure LE where
 rd:C Nat
 wr:C Nat
 ts:C Nat
 d:N Nat
instance :Inhabited LE:=⟨⟨[],[],[],X⟩⟩
def ZgP(ops:R Oper)(o:Oper):C Nat:=match o.guard with
 |none=>[]
 |some (j,_)=>((ops[j]?).bind (·.dst)).toList
def ZdG:Operand->C Nat
 |.tmp i=>[i]
 |_=>[]
def Ej(ops:R Oper)(o:Oper):C Nat:=(o.op.operands.toList.flatMap ZdG)++ZgP ops o
def Qz(ops:R Oper)(o:Oper)(t:C PV)(wd ν:Nat):LE:=⟨opR o.op t,opW o.op t wd ν,Ej ops o,o.dst⟩
def le0(ops:R Oper)(o:Oper):LE:=⟨[],[],Ej ops o,o.dst⟩
def tk(a b:C Nat):Bool:=a.all λx=>!b.contains x
theorem uN{a b:C Nat}(h:tk a b=M){x y:Nat}(hx:x∈a)(hy:y∈b):x≠y:=by
 rintro rfl;have:=VZ.1 h x hx
 simp_all
def CI(a b:LE):Bool:=tk a.wr b.rd&&tk a.wr b.wr&&tk b.wr a.rd&&tk a.d.toList b.ts&&tk b.d.toList a.ts&&tk a.d.toList b.d.toList
def Zcj(acc:C Nat)(o:Oper):Nat:=o.after.toList.foldr (λe s=>if Region.binds .any e then s |||2 ^ e.on |||acc.getD e.on 0 else s) 0
def Sy:C Oper->C Nat->C Nat
 | [],acc=>acc
 |o::rest,acc=>Sy rest (acc++[Zcj acc o])
def PX(ops:C Oper)(g:C LE):Bool:=
 let ms:=Sy ops []
 (Wj (G ops)).all λj=>(((ops[j]?).map (·.after.all λe=>!Region.binds .any e ||Zg (e.on<j))).getD V)&&(Wj j).all λi=>(ms.getD j 0).testBit i ||CI (g.getD i default) (g.getD j default)
def Al(σ:Nat->Nat):C Nat->Mem->Upd
 |l::ρ,x::m1=>(l,x.map (o5 σ))::Al σ ρ m1
 |_,_=>[]
theorem Jg{σ:Nat->Nat}:∀(ρ:C Nat) (m1 m:Mem),(∀l∈ρ,l<G m)->qO σ ρ m1 m=app (Al σ ρ m1) m
 | [],m1,m,_=>by rfl
 |l::ρ,[],m,_=>rfl
 |l::ρ,x::m1,m,h=>by
  simp only[qO];rw[Jg ρ m1 _ (λk hk=>by grind)]
  show app (Al σ ρ m1) _=app (Al σ ρ m1) (tn m (l,x.map (o5 σ)));rw[show tn m (l,x.map (o5 σ))=m.set l (x.map (o5 σ))from xm (h l Wo) _]
theorem BN{σ:Nat->Nat}{m m2:Mem}{n:Nat}:∀{ρ:C Nat} {m0:Mem},(∀l∈ρ,look m2 l=look m l)->ru σ m n ρ m0->ru σ m2 n ρ m0
 | [],[],_,_=>trivial
 | [],_::_,_,h=>h.elim
 |_::_,[],_,h=>h.elim
 |l::ρ,X::m0,_,h=>h.elim
 |l::ρ,F PE::m0,hl,h=>⟨kj.1 ((hl l Wo).trans (kj.2 h.1)),h.2.1,BN (λk hk=>hl k (Wl _ hk)) h.2.2⟩
def pIO(P:Program)(wd ν:Nat)(f:FuncId)(ps:C PV)(m:Mem)(K:C Nat->PV->Mem->Prop):Prop:=
 ∃(ρ:C Nat) (m0:Mem) (qs:C PV) (r:PV) (m1:Mem),eh P f qs m0 r m1/\(G m0)<=G m1/\(G m1)-G m0<=wd/\ps=qs.map (Cg (sig ρ ν))/\(∀q∈qs,vP V q/\Kx (G m0) q=M)/\ρ.Nodup/\ru (sig ρ ν) m (G m0) ρ m0/\
  (∀mb,F mb∈m1->∀cs∈mb.es,∀p∈cs,fC V p)/\s9 V r/\K ρ (Ch (sig ρ ν) r) (kN (sig ρ ν) ν (m1.drop (G ρ)) (qO (sig ρ ν) ρ m1 m))
def Ra(P:Program)(wd ν:Nat)(o:Op)(t:C PV)(m:Mem)(K:C Nat->PV->Mem->Prop):Prop:=match o with
 |.call ⟨.value (.func f),xs,_⟩=>wk P f/\pIO P wd ν f (xs.toList.map (W t)) m K
 |_=>False
theorem JJ{σ:Nat->Nat}:∀(ρ:C Nat) (m1:Mem) (q:Nat×N MB),q∈Al σ ρ m1->q.1∈ρ
 | [],m1,q,h=>by cases m1<;>simp[Al]at h
 |l::ρ,[],q,h=>by simp[Al]at h
 |l::ρ,x::m1,q,h=>by
  simp only[Al,VY]at h
  rcases h with rfl|h
  ·simp
  ·exact Wl _ (JJ ρ m1 q h)
theorem U0{P:Program}{m:Mem}{wd ν:Nat}{K:C Nat->PV->Mem->Prop}(h:pIO P wd ν f ps m K):
 ∃(ρ:C Nat) (p:PV) (u:Upd),K ρ p (app u m)/\(∀q∈u,q.1∈ρ++XM ν wd)/\∀m2,(∀l∈ρ,look m2 l=look m l)->rN P M wd ν f ps m2 λp' m'=>p'=p/\m'=app u m2:=by
 obtain⟨ρ,m0,qs,r,m1,hc,hle,h16,Qj,hqs,hn,xg,LR,Qc,hK⟩:=h;have bD:∀(m2:Mem),ru (sig ρ ν) m2 (G m0) ρ m0->∀l∈ρ,l<G m2:=λm2 hi l hl=>by
  obtain⟨i,hi1,rfl⟩:=List.getElem_of_mem hl;obtain⟨PE,_,h2,_⟩:=(vg hi).2 i ρ[i] (VS hi1)
  grind
 have e:∀(m2:Mem),ru (sig ρ ν) m2 (G m0) ρ m0->kN (sig ρ ν) ν (m1.drop (G ρ)) (qO (sig ρ ν) ρ m1 m2)=app (Al (sig ρ ν) ρ m1++xQ (sig ρ ν) ν (m1.drop (G ρ))) m2:=λm2 hi=>by
  rw[sw,Jg ρ m1 m2 (bD m2 hi)];simp only[app,List.foldl_append]
 have hlen:=(vg xg).1;refine⟨ρ,Ch (sig ρ ν) r,Al (sig ρ ν) ρ m1++xQ (sig ρ ν) ν (m1.drop (G ρ)),by grind,λq hq=>?_,λm2 CB=>?_⟩
 ·rcases We.1 hq with hq|hq
  ·exact W0 _ (JJ _ _ _ hq)
  ·have:=xR _ _ _ q hq
   grind
 ·have Zka:=BN CB xg
  exact .inr ⟨ρ,m0,qs,r,m1,.inl rfl,hc,hle,h16,Qj,hqs,hn,Zka,LR,Qc,rfl,e m2 Zka⟩
def Qu:C Nat->Nat->Bool
 | [],_=>V
 |a::l,i=>if a=i then M else Qu l i
def Ze8(ops:R Oper)(o:Oper)(ρ:C Nat)(wd ν:Nat):LE:=⟨ρ,ρ++XM ν wd,Ej ops o,o.dst⟩
def nP(P:Program)(wd base:Nat)(fl:C Nat)(ops:R Oper)(K:C LE->C PV->Mem->Prop):Nat->C Oper->C LE->C PV->Mem->Prop
 |_,[],g,t,m=>K g t m
 |i,o::rest,g,t,m=>match o.guard with
  |none=>if Qu fl i=M then Ra P wd (base+wd*i) o.op t m λρ p m'=>nP P wd base fl ops K (i+1) rest (g++[Ze8 ops o ρ wd (base+wd*i)]) (ki t o.dst p) m'
   else kb P V wd (base+wd*i) o.op t m λp m'=>nP P wd base fl ops K (i+1) rest (g++[Qz ops o t wd (base+wd*i)]) (ki t o.dst p) m'
  |some (j,b)=>match(ops[j]?).bind (·.dst)with
   |none=>nP P wd base fl ops K (i+1) rest (g++[le0 ops o]) (ki t o.dst .ud) m
   |some d=>match t.getD d .un,b with
    |.v (.bool c),M=>gate c (kb P V wd (base+wd*i) o.op (t.set d (.v (.bool M))) m λp m'=>nP P wd base fl ops K (i+1) rest (g++[Qz ops o (t.set d (.v (.bool M))) wd (base+wd*i)]) (ki (t.set d (.v (.bool M))) o.dst p) m')
     (nP P wd base fl ops K (i+1) rest (g++[le0 ops o]) (ki (t.set d (.v (.bool V))) o.dst .ud) m)
    |.v (.bool c),V=>gate c (nP P wd base fl ops K (i+1) rest (g++[le0 ops o]) (ki (t.set d (.v (.bool M))) o.dst .ud) m)
     (kb P V wd (base+wd*i) o.op (t.set d (.v (.bool V))) m λp m'=>nP P wd base fl ops K (i+1) rest (g++[Qz ops o (t.set d (.v (.bool V))) wd (base+wd*i)]) (ki (t.set d (.v (.bool V))) o.dst p) m')
    |.ud,_=>nP P wd base fl ops K (i+1) rest (g++[le0 ops o]) (ki t o.dst .ud) m
    |_,_=>False
def Want(ops:R Oper)(o:Oper)(t:C PV):Prop:=o.guard=X\/∃j b d,o.guard=F (j,b)/\(ops[j]?).bind (·.dst)=F d/\t.getD d .un=.v (.bool b)
def PK(ops:R Oper)(o:Oper)(t:C PV):Prop:=∃j b,o.guard=F (j,b)/\((ops[j]?).bind (·.dst)=X\/∃d,(ops[j]?).bind (·.dst)=F d/\(t.getD d .un=.ud\/t.getD d .un=.v (.bool (!b))))
def Zlz(P:Program)(wd ν:Nat)(ops:R Oper)(o:Oper)(a:RA)(t:C PV)(m:Mem):Prop:=
 (Want ops o t/\∃io:Bool,kb P io wd ν o.op t m λp' m'=>p'=a.p/\m'=app a.u m)\/(PK ops o t/\a.p=.ud/\a.u=[])
structure Stp(P:Program)(wd ν:Nat)(ops:R Oper)(o:Oper)(a:RA)(g:LE)(t:C PV)(m:Mem):Prop where
 ad:a.d=o.dst
 gd:g.d=o.dst
 gt:g.ts=Ej ops o
 wr:∀q∈a.u,q.1∈g.wr
 Zl2:∀t2 m2,(∀s∈g.ts,t2.getD s .un=t.getD s .un)->(∀l∈g.rd,look m2 l=look m l)->Zlz P wd ν ops o a t2 m2
section
variable {P:Program} {wd base:Nat} {fl:C Nat} {ops:R Oper} {K:C LE->C PV->Mem->Prop}
theorem Hq{L:Nat->Bool}:∀(as_:C RA) (i:Nat) (t:C PV),(∀k,L (i+k)=V)->yW L i as_ t=t
 | [],_,_,_=>rfl
 |a::as_,i,t,h=>by
  simp only[yW];rw[show L i=V from h 0];exact Hq as_ (i+1) t λk=>by rw[show i+1+k=i+(k+1)by omega];simp_all
theorem Ho{L:Nat->Bool}:∀(as_:C RA) (i:Nat) (m:Mem),(∀k,L (i+k)=V)->stM L i as_ m=m
 | [],_,_,_=>rfl
 |a::as_,i,m,h=>by
  simp only[stM];rw[show L i=V from h 0];exact Ho as_ (i+1) m λk=>by rw[show i+1+k=i+(k+1)by omega];simp_all
theorem MV{t t2:C PV}(h:∀s∈ZdG x,t2.getD s .un=t.getD s .un):W t2 x=W t x:=by
 cases x with
 |tmp i=>exact h i (by simp[ZdG])
 |_=>rfl
theorem OS{t:C PV}{d:Nat}(h:t.getD d .un=p)(gL:p≠.un):t.set d p=t:=by
 apply XZ
 grind
theorem Zge{o:Oper}{t t2:C PV}{m m2:Mem}{wd ν:Nat}(h1:∀s∈Ej ops o,t2.getD s .un=t.getD s .un)(h2:∀l∈opR o.op t,look m2 l=look m l):Same o.op t m t2 m2:=
 ⟨λx hx=>MV λs hs=>h1 s (W0 _ (WY.2 ⟨x,hx,hs⟩)),h2⟩
theorem Jf:∀(l:C Oper) (i:Nat) (g:C LE) (t:C PV) (m:Mem),nP P wd base fl ops K i l g t m->
 ∃(as_:C RA) (gs:C LE),G as_=G l/\(G gs)=G l/\K (g++gs) (yW (λ_=>M) i as_ t) (stM (λ_=>M) i as_ m)/\
  ∀k o,l[k]?=F o->∃a e,as_[k]?=F a/\gs[k]?=F e/\Stp P wd (base+wd*(i+k)) ops o a e (yW (λj=>Zg (j<i+k)) i as_ t) (stM (λj=>Zg (j<i+k)) i as_ m)
 | [],i,g,t,m,h=>by
  unfold nP at h
  exact⟨[],[],rfl,rfl,by simpa[yW,stM]using h,λk o hk=>by grind⟩
 |o::l,i,g,t,m,h=>by
  -- one step,and the rest
  have next:∀(a:RA) (e:LE),nP P wd base fl ops K (i+1) l (g++[e]) (ki t a.d a.p) (app a.u m)->Stp P wd (base+wd*i) ops o a e t m->∃(as_:C RA) (gs:C LE),G as_=G (o::l)/\(G gs)=G (o::l)/\K (g++gs) (yW (λ_=>M) i as_ t) (stM (λ_=>M) i as_ m)/\
   ∀k o',(o::l)[k]?=F o'->∃a e,as_[k]?=F a/\gs[k]?=F e/\Stp P wd (base+wd*(i+k)) ops o' a e (yW (λj=>Zg (j<i+k)) i as_ t) (stM (λj=>Zg (j<i+k)) i as_ m):=by
   intro a e h hs;obtain⟨as_,gs,h1,h2,h3,h4⟩:=Jf l (i+1) _ _ _ h;refine⟨a::as_,e::gs,by grind,by grind,by simpa[yW,stM]using h3,λk o' hk=>?_⟩
   cases k with
   |zero=>
    obtain rfl:o=o':=by grind
    refine⟨a,e,rfl,rfl,?_⟩;rw[Hq _ _ _ (λk=>by simp),Ho _ _ _ (λk=>by simp)]
    omega
   |succ k=>
    obtain⟨a',e',g1,g2,g3⟩:=h4 k o' Y;simp only[yW,stM,show Zg (i<i+(k+1))=M by simp,if_true]
    grind
  have pass:∀(zZ:∀t2:C PV,(∀s∈Ej ops o,t2.getD s .un=t.getD s .un)->PK ops o t2),nP P wd base fl ops K (i+1) l (g++[le0 ops o]) (ki t o.dst .ud) m->∃(as_:C RA) (gs:C LE),G as_=G (o::l)/\(G gs)=G (o::l)/\K (g++gs) (yW (λ_=>M) i as_ t) (stM (λ_=>M) i as_ m)/\
   ∀k o',(o::l)[k]?=F o'->∃a e,as_[k]?=F a/\gs[k]?=F e/\Stp P wd (base+wd*(i+k)) ops o' a e (yW (λj=>Zg (j<i+k)) i as_ t) (stM (λj=>Zg (j<i+k)) i as_ m):=by
   intro zZ h;exact next ⟨o.dst,.ud,[]⟩ (le0 ops o) h ⟨rfl,rfl,rfl,by simp,λt2 m2 h1 _=>.inr ⟨zZ t2 h1,rfl,rfl⟩⟩
  have run:∀(hw:∀t2:C PV,(∀s∈Ej ops o,t2.getD s .un=t.getD s .un)->Want ops o t2),(kb P V wd (base+wd*i) o.op t m λp m'=>nP P wd base fl ops K (i+1) l (g++[Qz ops o t wd (base+wd*i)]) (ki t o.dst p) m')->∃(as_:C RA) (gs:C LE),G as_=G (o::l)/\(G gs)=G (o::l)/\K (g++gs) (yW (λ_=>M) i as_ t) (stM (λ_=>M) i as_ m)/\
   ∀k o',(o::l)[k]?=F o'->∃a e,as_[k]?=F a/\gs[k]?=F e/\Stp P wd (base+wd*(i+k)) ops o' a e (yW (λj=>Zg (j<i+k)) i as_ t) (stM (λj=>Zg (j<i+k)) i as_ m):=by
   intro hw h;obtain⟨p,u,h1,h2,h3⟩:=Q7 h;exact next ⟨o.dst,p,u⟩ (Qz ops o t wd (base+wd*i)) h1 ⟨rfl,rfl,rfl,h2,λt2 m2 e1 e2=>.inl ⟨hw t2 e1,V,h3 t2 m2 (Zge (ops:=ops) (wd:=wd) (ν:=0) e1 e2)⟩⟩
  have gs:∀{j b d},o.guard=F (j,b)->(ops[j]?).bind (·.dst)=F d->d∈Ej ops o:=λhg hd=>List.mem_append_right _ (by simp[ZgP,hg,hd])
  simp only[nP]at h
  split at h
  ·rename_i hg
   split at h
   ·unfold Ra at h
    split at h
    ·rename_i f xs Ts hop
     obtain⟨hfn,hc⟩:=h;obtain⟨ρ,p,u,hK,BM,Zmq⟩:=U0 hc;refine next ⟨o.dst,p,u⟩ (Ze8 ops o ρ wd (base+wd*i)) hK ⟨rfl,rfl,rfl,BM,λt2 m2 e1 e2=>.inl ⟨.inl hg,M,?_⟩⟩
     have ZbL:xs.toList.map (W t2)=xs.toList.map (W t):=WG λx hx=>MV λs hs=>e1 s (W0 _ (WY.2 ⟨x,by rw[hop];simp[Op.operands,Call.operands,Array.mem_toList_iff.1 hx],hs⟩))
     rw[hop];show wk P f/\rN P M wd _ f (xs.toList.map (W t2)) m2 _;rw[ZbL];exact⟨hfn,Zmq m2 e2⟩
    grind
   ·exact run (λt2 _=>.inl hg) h
  ·rename_i j b hg
   split at h
   ·rename_i H6;exact pass (λt2 _=>⟨j,b,hg,.inl H6⟩) h
   ·rename_i d H6
    split at h
    ·rename_i c hc
     have C7:=λc' (hc':c=c')=>OS (t:=t) (d:=d) (p:=.v (.bool c')) YG YE
     cases c with
     |true=>rw[C7 M rfl]at h;exact run (λt2 e=>.inr ⟨j,M,d,hg,H6,(e d (gs hg H6)).trans hc⟩) (h.1 rfl)
     |false=>rw[C7 V rfl]at h;exact pass (λt2 e=>⟨j,M,hg,.inr ⟨d,H6,.inr ((e d (gs hg H6)).trans hc)⟩⟩) (h.2 rfl)
    ·rename_i c hc
     have C7:=λc' (hc':c=c')=>OS (t:=t) (d:=d) (p:=.v (.bool c')) YG YE
     cases c with
     |true=>rw[C7 M rfl]at h;exact pass (λt2 e=>⟨j,V,hg,.inr ⟨d,H6,.inr ((e d (gs hg H6)).trans hc)⟩⟩) (h.1 rfl)
     |false=>rw[C7 V rfl]at h;exact run (λt2 e=>.inr ⟨j,V,d,hg,H6,(e d (gs hg H6)).trans hc⟩) (h.2 rfl)
    ·rename_i hc;exact pass (λt2 e=>⟨j,_,hg,.inr ⟨d,H6,.inl ((e d (gs hg H6)).trans hc)⟩⟩) h
    grind
/-! Zjl the check Zne. -/
def PI(ops:C Oper)(L:Nat->Bool):Prop:=∀(j:Nat) (o:Oper),ops[j]?=F o->L j=M->∀e∈o.after.toList,Region.binds .any e=M->L e.on=M
theorem GC{L:Nat->Bool}{acc:C Nat}(C3:∀j,L j=M->∀i,(acc.getD j 0).testBit i=M->L i=M):∀(es:C Edge),(∀e∈es,Region.binds .any e=M->L e.on=M)->∀i,(es.foldr (λe s=>if Region.binds .any e then s |||2 ^ e.on |||acc.getD e.on 0 else s) 0).testBit i=M->L i=M
 | [],_,i,h=>by grind
 |e::es,he,i,h=>by
  simp only[List.foldr_cons]at h
  split at h
  ·simp only[Nat.testBit_or,Bool.or_eq_true]at h
   rcases h with(h|h) |h
   ·exact GC C3 es (λe' h'=>he e' (Wl _ h')) i h
   all_goals grind
  ·exact GC C3 es (λe' h'=>he e' (Wl _ h')) i h
theorem Dh{ops:C Oper}{L:Nat->Bool}(vD:PI ops L):∀(l:C Oper) (acc:C Nat),(∀k,l[k]?=ops[G acc+k]?)->(∀j,L j=M->∀i,(acc.getD j 0).testBit i=M->L i=M)->∀j,L j=M->∀i,((Sy l acc).getD j 0).testBit i=M->L i=M
 | [],acc,_,C3=>C3
 |o::l,acc,hl,C3=>by
  refine Dh vD l _ (λk=>?_) λj hj i hi=>?_
  ·have:=hl (k+1)
   grind
  ·rcases WQ j (G acc) with h|h|h
   ·refine C3 j hj i ?_
    grind
   ·subst h
    have h0:=hl 0;have od:(Zcj acc o).testBit i=true:=by grind
    exact GC C3 o.after.toList (λe he hb=>vD (G acc) o h0.symm hj e he hb) i od
   grind
theorem Ix{ops:C Oper}{g:C LE}(h:PX ops g=M){i j:Nat}(AY:i<j)(hj:j<G ops):((Sy ops []).getD j 0).testBit i=M\/CI (g.getD i default) (g.getD j default)=true:=by
 unfold PX at h
 grind
theorem Zed{ops:C Oper}{g:C LE}(h:PX ops g=M){o:Oper}(hj:ops[j]?=F o):∀e∈o.after.toList,Region.binds .any e=M->e.on<j:=by
 have:=VZ.1 h j (W3.2 (VT.1 hj).1);rw[V7,hj]at this
 have h1:=this.1;simp only[WC]at h1
 rw[<-X0]at h1
 grind
/-! The region. -/
section
variable {w:World} {O:Nat->Prop} {E:Env} {w0:World} {m:Mem} {S0:Nat->Prop} {ω0:Nat->Key->Prop}
def unl(n:Nat)(listed:R Bool):Nat:=G ((Wj n).filter λj=>!listed.getD j V)
theorem ZgA{n i:Nat}{listed:R Bool}(hi:i<n)(hs:listed.size=n)(h:listed.getD i V=V):unl n (listed.setIfInBounds i M)<unl n listed:=by
 unfold unl;have e:(Wj n).filter (λj=>!(listed.setIfInBounds i M).getD j V)=((Wj n).filter λj=>!listed.getD j V).filter λj=>Zg (j≠i):=by
  rw[List.filter_filter];apply List.filter_congr;intro j hj
  by_cases H8:j=i
  ·simp_all
  ·have:(listed.setIfInBounds i M).getD j V=listed.getD j false:=by
    rw[WA,WA,XV (λe=>H8 e.symm)]
   grind
 rw[e];exact List.length_filter_lt_length_iff_exists.2 ⟨i,by
  grind,by simp⟩
structure ZgF(P:Program)(wd:Nat)(ops:C Oper)(as_:C RA)(gs:C LE)(t0:C PV)(m0:Mem):Prop where
 la:as_.length=ops.length
 lg:gs.length=ops.length
 cf:PX ops gs=M
 st:∀(k:Nat) (o:Oper),ops[k]?=F o->∃a e,as_[k]?=F a/\gs[k]?=F e/\Stp P wd (m0.length+wd*k) ops.toArray o a e (yW (λj=>Zg (j<k)) 0 as_ t0) (stM (λj=>Zg (j<k)) 0 as_ m0)
theorem ZgB{ops:R Oper}{o:Oper}{t:C PV}(h:Want ops o t)(ht:ue w E t tm):Region.wanted o (yielded ops tm)=true:=by
 rcases h with h|⟨j,b,d,hg,hd,hs⟩
 ·exact Gc h _
 ·rw[xA hg hd ht hs];simp
theorem UU{ops:R Oper}{o:Oper}{t:C PV}(h:PK ops o t)(ht:ue w E t tm):Region.wanted o (yielded ops tm)=false:=by
 obtain⟨j,b,hg,h|⟨d,hd,h|h⟩⟩:=h
 ·exact M5 hg h _
 ·exact M6 hg hd ht h
 ·rw[xA hg hd ht h];simp
def SBd(S0:Nat->Prop)(ω0:Nat->Key->Prop)(w0:World)(O:Nat->Prop)(E:Env):Prop:=(∀b,E.S b->S0 b\/w0.heap.size<=b\/O b)/\∀b q,E.ω b q->ω0 b q\/w0.heap.size<=b\/O b
theorem Zdk{w':World}{E':Env}(hk:Ok w0 O E w m)(h2:SBd S0 ω0 w0 O E)(k2:Ext w w' E E'):SBd S0 ω0 w0 O E':=by
 refine⟨λb hb=>?_,λb q hb=>?_⟩
 ·rcases k2.S' b hb with h|h|⟨l,B,hB,hz,rfl⟩
  ·exact h2.1 b h
  ·exact .inr (.inl (Wd hk.up.size h))
  ·rcases(hk.own l B hB hz).1 with h|h
   all_goals grind
 ·rcases k2.ω' b q hb with h|h|⟨l,B,hB,hz,rfl⟩
  ·exact h2.2 b q h
  ·exact .inr (.inl (Wd hk.up.size h))
  ·rcases(hk.own l B hB hz).1 with h|h
   all_goals grind
theorem MM(C9:0<wd){ops:C Oper}{as_:C RA}{gs:C LE}{t0:C PV}{m0:Mem}(CC:ZgF P wd ops as_ gs t0 m0){J:Env->Prop}(hJ:∀w w' E E',Ext w w' E E'->J E->J E'){K:C PV->Mem->Prop}{Q:Exit->Act->World->Prop}
 (hK:K (yW (λ_=>M) 0 as_ t0) (stM (λ_=>M) 0 as_ m0))
 (hQ:∀t m a w E,K t m->Ok w0 O E w m->(∀b,S0 b->E.S b)->SBd S0 ω0 w0 O E->a.defers=[]->ue w E t a.tmps->J E->Q .normal a w):
 ∀(fuel:Nat) (listed:R Bool) (a:Act) (w:World) (E:Env),listed.size=G ops->unl (G ops) listed<=fuel->PI ops (λj=>listed.getD j V)->
  Ok w0 O E w (stM (λj=>listed.getD j V) 0 as_ m0)->(∀b,S0 b->E.S b)->SBd S0 ω0 w0 O E->a.defers=[]->ue w E (yW (λj=>listed.getD j V) 0 as_ t0) a.tmps->
  (∀l,E.used l->l<G m0\/∃j,listed.getD j V=M/\(G m0)+wd*j<=l/\l<G m0+wd*j+wd)->J E->wpAny P .any ops.toArray Q fuel listed a w:=by
 -- all is listed where nothing may ZnT
 have fin:∀(listed:R Bool),listed.size=G ops->Region.ready .any ops.toArray listed=[]->∀j,j<G ops->listed.getD j V=true:=by
  intro listed hs hr j
  induction j using Nat.strongRecOn with
  |_ j ih=>
   intro hj
   by_cases hl:listed.getD j V=M
   ·omega
   ·exfalso
    have Gi:j∈Region.ready .any ops.toArray listed:=by
     unfold Region.ready;refine WW.2 ⟨W3.2 YA,?_⟩;have h1:listed.getD j M=false:=by
      simp_all
     rw[h1];obtain⟨o,ho⟩:∃o,ops[j]?=F o:=⟨ops[j],VS hj⟩;have zK:(ops.toArray)[j]?=F o:=by simp_all
     rw[zK];simp only[WC,W9,Bool.not_false,Bool.true_and];rw[<-X0,VZ];intro e he
     by_cases hb:Region.binds .any e=M
     ·have bD:=Zed CC.cf ho e he hb
      grind
     simp_all
    simp_all
 have done:∀(listed:R Bool) (a:Act) (w:World) (E:Env),listed.size=G ops->Region.ready .any ops.toArray listed=[]->Ok w0 O E w (stM (λj=>listed.getD j V) 0 as_ m0)->(∀b,S0 b->E.S b)->SBd S0 ω0 w0 O E->a.defers=[]->ue w E (yW (λj=>listed.getD j V) 0 as_ t0) a.tmps->J E->Q .normal a w:=by
  intro listed a w E hs hr hk h1 h2 hd ht hj;have wi:=fin listed hs hr;rw[RB as_ 0 m0 (L':=λ_=>M) λk hk=>by simp only[Wa];exact wi k (by rw[<-CC.la];omega)]at hk
  rw[RC as_ 0 t0 (L':=λ_=>M) λk hk=>by simp only[Wa];exact wi k (by rw[<-CC.la];omega)]at ht
  grind
 intro fuel
 induction fuel with
 |zero=>
  intro listed a w E hs hu vD hk h1 h2 hd ht Gk hjE;have hr:Region.ready .any ops.toArray listed=[]:=by
   unfold Region.ready;rw[List.filter_eq_nil_iff];intro j hj;have H7:j<G ops:=by simp_all
   have wi:listed.getD j V=true:=by
    unfold unl at hu
    simp_all
   simp_all
  exact⟨hr,done listed a w E hs hr hk h1 h2 hd ht hjE⟩
 |succ fuel ih=>
  intro listed a w E hs hu vD hk h1 h2 hd ht Gk hjE;refine⟨λhr=>done listed a w E hs hr hk h1 h2 hd ht hjE,λi hi=>?_⟩
  obtain⟨hi1,hi2⟩:=WW.1 hi;have xg:i<G ops:=by simp_all
  obtain⟨o,ho⟩:∃o,ops[i]?=F o:=⟨ops[i],VS xg⟩;have zK:(ops.toArray)[i]?=F o:=by simpa using ho
  rw[zK]at hi2
  simp only[WC,W9,V7,Bool.not_eq_true']at hi2
  obtain⟨Zkl,Zh1⟩:=hi2;have his:i<listed.size:=YA;have E3:listed.getD i V=false:=by
   simp only[X8,his,dif_pos]at Zkl⊢
   exact Zkl
  have Zj4:∀e∈o.after.toList,Region.binds .any e=M->listed.getD e.on false=true:=by
   intro e he hb;rw[<-X0]at Zh1
   grind
  obtain⟨ai,ei,ha,he,tV⟩:=CC.st i o ho
  let L:Nat->Bool:=λj=>listed.getD j V
  have Zmi:=Dh vD ops [] (λk=>by simp) (λj _ i h=>by simp[XN]at h)
  -- RL is listed behind i is apart from it;RL is not listed ahead of it,too
  have ZeC:∀{k e'},gs[k]?=F e'->gs.getD k default=e':=λh=>by simp[XN,h]
  have P9:∀(k:Nat) (e':LE),gs[k]?=F e'->i<k->L k=M->CI ei e'=true:=by
   intro k e' hk' bD hL;have hkn:k<G ops:=by grind
   rcases Ix CC.cf bD hkn with h|h
   ·have:=Zmi k hL i h
    simp[E3]at this
   ·rwa[ZeC he,ZeC hk']at h
  have Zh0:PI ops (ins L i):=by
   intro j o' hj hL e he' hb;simp only[ins]at hL⊢
   split at hL
   ·rename_i H8
    subst H8;rw[ho]at hj
    cases hj
    split
    ·rfl
    ·exact Zj4 e he' hb
   ·split
    ·rfl
    ·exact vD j o' hj hL e he' hb
  have Zj0:=Dh Zh0 ops [] (λk=>by simp) (λj _ i h=>by simp[XN]at h)
  have ZeI:∀(k:Nat) (e':LE),gs[k]?=F e'->k<i->L k=V->CI e' ei=true:=by
   intro k e' hk' bD hL
   rcases Ix CC.cf bD xg with h|h
   ·have:=Zj0 i (by simp[ins]) k h
    simp only[ins]at this
    rw[if_neg YA]at this
    rw[hL]at this;cases this
   ·rwa[ZeC he,ZeC hk']at h
  have part:∀{x y:LE},CI x y=M->tk x.wr y.rd=M/\tk x.wr y.wr=M/\tk y.wr x.rd=M/\tk x.d.toList y.ts=M/\tk y.d.toList x.ts=M/\tk x.d.toList y.d.toList=true:=by
   intro x y h;simp only[CI,V7]at h
   exact⟨h.1.1.1.1.1,h.1.1.1.1.2,h.1.1.1.2,h.1.1.2,h.1.2,h.2⟩
  -- the Zni own entries
  have stp:∀{k:Nat} {b:RA},as_[k]?=F b->∃e':LE,gs[k]?=F e'/\b.d=e'.d/\∀q∈b.u,q.1∈e'.wr:=by
   intro k b hb;have hkn:k<G ops:=by rw[<-CC.la];exact(VT.1 hb).1
   obtain⟨a',e',g1,g2,g3⟩:=CC.st k ops[k] (VS hkn);rw[hb]at g1
   cases g1
   exact⟨e',g2,g3.ad.trans g3.gd.symm,g3.wr⟩
  have parts:∀(k:Nat) (b:RA),as_[k]?=F b->L (0+k)≠(Zg (0+k<i))->∃e':LE,gs[k]?=F e'/\b.d=e'.d/\(∀q∈b.u,q.1∈e'.wr)/\(∀s∈e'.d.toList,s ∉ ei.ts)/\∀l∈e'.wr,l ∉ ei.rd:=by
   intro k b hb gL;rw[Wa]at gL
   obtain⟨e',g1,g2,g3⟩:=stp hb;refine⟨e',g1,g2,g3,?_⟩
   rcases WQ k i with h|h|h
   ·have hL:L k=false:=by
     cases hLk:L k with
     |false=>rfl
     |true=>rw[hLk]at gL;simp[h]at gL
    obtain⟨p1,p2,p3,p4,p5,p6⟩:=part (ZeI k e' g1 h hL);exact⟨λs hs hs'=>uN p4 hs hs' rfl,λl hl Sk=>uN p1 hl Sk rfl⟩
   ·subst h
    simp only[Nat.lt_irrefl,decide_false]at gL
    exact Zo E3 gL
   ·have hL:L k=true:=by
     cases hLk:L k with
     |true=>rfl
     |false=>rw[hLk]at gL;simp[Nat.not_lt.2 (Nat.le_of_lt h)]at gL
    obtain⟨p1,p2,p3,p4,p5,p6⟩:=part (P9 k e' g1 h hL);exact⟨λs hs hs'=>uN p5 hs hs' rfl,λl hl Sk=>uN p3 hl Sk rfl⟩
  have Zj5:=tV.Zl2 (yW L 0 as_ t0) (stM L 0 as_ m0) (λs hs=>JA as_ 0 t0 t0 rfl rfl λk b hb gL=>by
   obtain⟨e',g1,g2,g3,g4,g5⟩:=parts k b hb gL;rw[g2];intro Cy;exact g4 s (by rw[Cy];simp) hs) (λl hl=>Jz as_ 0 m0 m0 rfl λk b hb gL q hq=>by
   obtain⟨e',g1,g2,g3,g4,g5⟩:=parts k b hb gL;intro hql;exact g5 q.1 (g3 q hq) (by rw[hql];exact hl))
  -- the next state
  have D6:(λj=>(listed.setIfInBounds i M).getD j V)=ins L i:=by
   funext j
   simp only[ins]
   split
   ·rename_i H8;subst H8;simp[X8,his]
   ·rename_i H8
    rw[WA,XV (λe=>H8 e.symm),<-WA]
  have hTi:yW (ins L i) 0 as_ t0=ki (yW L 0 as_ t0) ai.d ai.p:=by
   have:=Tb (L:=L) as_ 0 i t0 ha (by rw[Wa];exact E3) λk b hb bD hL=>by
    rw[Wa]at hL
    obtain⟨e',g1,g2,g3⟩:=stp hb;obtain⟨p1,p2,p3,p4,p5,p6⟩:=part (P9 k e' g1 bD hL);rw[g2,tV.ad.trans tV.gd.symm]
    cases hd1:ei.d with
    |none=>exact .inl rfl
    |some x=>
     refine .inr λhd2=>?_
     exact uN p6 (x:=x) (y:=x) (by simp[hd1]) (by rw[<-hd2];simp) rfl
   simpa using this
  have hMi:stM (ins L i) 0 as_ m0=app ai.u (stM L 0 as_ m0):=by
   have:=Ta (L:=L) as_ 0 i m0 ha (by rw[Wa];exact E3) λk b hb bD hL q hq r hr=>by
    rw[Wa]at hL
    obtain⟨e',g1,g2,g3⟩:=stp hb;obtain⟨p1,p2,p3,p4,p5,p6⟩:=part (P9 k e' g1 bD hL);exact uN p2 (tV.wr q hq) (g3 r hr)
   simpa using this
  have hdd:∀x,(a.put o.dst x).defers=[]:=λx=>by cases o.dst<;>exact hd
  have bD:=ZgA xg hs E3;unfold wpOp;rw[zK]
  rcases Zj5 with⟨hw,io,hp⟩ |⟨hw,hp,hu0⟩
  ·simp only[ZgB hw ht,if_true]
   obtain⟨p,m',⟨rfl,rfl⟩,hg⟩:=GW hk C9 (λr hr Nn=>by
    rcases Gk _ Nn with h|⟨j,hj,h3,h4⟩
    ·have:wd*i+r<wd*i+wd:=YA
     omega
    ·have H8:j=i:=by
      rcases WQ j i with h|h|h
      ·have:wd*j+wd<=wd*i:=by
        have:=Nat.mul_le_mul_left wd (show j+1<=i by omega)
        rw[Nat.mul_add]at this;omega
       omega
      ·exact h
      ·have:wd*i+wd<=wd*j:=by
        have:=Nat.mul_le_mul_left wd (show i+1<=j by omega)
        rw[Nat.mul_add]at this;omega
       omega
     subst H8;rw[E3]at hj;cases hj) ht hp
   refine .inl (hg _ _ λx w' E' k1 k2 k3 k4=>ih _ _ w' E' (by simpa using hs) YA ?_ ?_ (λb hb=>k2.S b (h1 b hb)) ?_ (hdd x) ?_ (λl hl=>?_) (hJ _ _ _ _ k2 hjE))
   ·rw[D6];exact Zh0
   ·rw[D6,hMi];exact k1
   ·exact Zdk hk h2 k2
   ·rw[D6,hTi,tV.ad];exact(ht.ext k2).put k3 o.dst
   ·have C7:(listed.setIfInBounds i M).getD i V=true:=by simp[X8,his]
    have ZbI:∀j,listed.getD j V=M->(listed.setIfInBounds i M).getD j V=true:=λj hj=>by
     have this:(listed.setIfInBounds i M).getD j V=ins L i j:=Zp D6 j;rw[this];simp only[ins]
     split
     ·rfl
     ·exact hj
    rcases k4 l hl with h|h
    ·rcases Gk l h with h|⟨j,hj,h3⟩
     ·exact .inl h
     ·exact .inr ⟨j,ZbI j hj,h3⟩
    ·exact .inr ⟨i,C7,h⟩
  ·simp only[UU hw ht,WJ,if_false]
   refine ih _ _ w E (by simpa using hs) YA ?_ ?_ h1 h2 (hdd _) ?_ (λl hl=>?_) hjE
   ·rw[D6];exact Zh0
   ·rw[D6,hMi,hu0];exact hk
   ·rw[D6,hTi,tV.ad,hp];exact ht.put (.c .ud) o.dst
   ·have ZbI:∀j,listed.getD j V=M->(listed.setIfInBounds i M).getD j V=true:=λj hj=>by
     have this:(listed.setIfInBounds i M).getD j V=ins L i j:=Zp D6 j;rw[this];simp only[ins]
     split
     ·rfl
     ·exact hj
    rcases Gk l hl with h|⟨j,hj,h3⟩
    ·exact .inl h
    ·exact .inr ⟨j,ZbI j hj,h3⟩
end
end
