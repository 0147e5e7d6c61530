/- A part of the proof of the statement in the last file of this claim: texts on the language of the program and on its functions. No condition. -/
import Derived.Test.YtdilaemengjipaaGreatDoorCA1
import Derived.Laws.BytesArg
set_option linter.unusedVariables false
set_option linter.unusedSimpArgs false
set_option linter.unusedSectionVars false
open Go.Value renaming int->YM
open Go.IntKind renaming i64->YN
open Go renaming undef->YO
open Option renaming some->YH,none->YI
open Bool renaming true->YJ,false->YK
open Decidable renaming decide->YL
open Option renaming map_eq_some_iff->Wb,map_some->WB,bind_some->VS,getD_some->Xe
open Option.some renaming injEq->V4
open List renaming map_eq_cons_iff->Xb,all_eq_true->V2,mem_of_getElem?->VV,getElem?_map->Wj,replicate->V7,mem_cons_of_mem->Wk,getElem?_set_ne->Wx,getElem?_set_self->WL,mem_cons_self->Wp,getElem?_eq_some_iff->VT,getD->Xz,getElem?_eq_getElem->VU,getElem?_of_mem->WD,pairwise_iff_getElem->Ws,length_eq_zero_iff->Xp,range'->Xy,foldl_cons->Wn,foldl_nil->Wi,map_congr_left->Wy,mem_append->Wl,mem_cons->V1,length_nil->VY,mem_flatMap->WN,not_mem_nil->V0,ext_getElem?->Xo,range->Wg,mem_append_left->Xc,mem_range->WC,mem_filter->Xg
open Classical renaming axiomOfChoice->W8,choose->XB,choose_spec->W0
open Nat renaming zero_le->Wu,lt_trichotomy->WJ,add_zero->WU,le_trans->Wq,zero_add->We
open _root_.Array renaming getElem?_eq_getElem->V8,getD->Xr,toList_append->XA,all_toList->XL,getD_eq_getD_getElem?->Ww,getElem?_setIfInBounds_ne->XH
open Bool renaming false_eq_true->WA,and_eq_true->V6
namespace Go.Proofs.YtdilaemengjipaaGreatDoor
set_option maxRecDepth 10000
open Go.RowKit
variable {B:qm}{K:PV->Prop}{es:List (List PV)}{l:Nat}{mb:MB}{p:PV}{x:Value}{α:Type}{ω:Nat->Key->Prop}{a:Array α}
def ur:PV->Bool
 |.v _|.ud|.un|.sl _|.rp _=>YJ
 |_=>YK
def r9:PV->Bool
 |.fn _ cs=>cs.all ur
 |p=>ur p
def IA:PV->Bool
 |.v _|.ud|.un|.ms _|.be ..=>YJ
 |_=>YK
def E1(S:Nat->Prop)(β:Nat->Option qm)(n:Nat)(ω:Nat->Key->Prop:=λ_ _=>False):Env:={ S:=S,β:=β,used:=λl=>l<n,ω:=ω}
def fL(P:Program)(f:FuncId)(args:List PV)(m0:Mem)(r:PV)(m1:Mem):Prop:=
 ∀(S:Nat->Prop) (β:Nat->Option qm) (w:World) (vs:Array Value) (ω:Nat->Key->Prop),Ok w (np β) (E1 S β m0.length ω) w m0->vs.size=args.length->(∀(i:Nat) (p:PV),args[i]?=YH p->∃x,vs[i]?=YH x/\dE w (E1 S β m0.length ω) p x)->
  Calls P f vs w λe w'=>∃v E',e=.returned v/\Ok w (np β) E' w' m1/\(∀b,S b->E'.S b)/\(∀b,E'.S b->S b\/w.heap.size<=b\/np β b)/\((∀l B,l<m0.length->E'.β l=YH B->β l=YH B)/\∀b q,E'.ω b q->ω b q\/w.heap.size<=b\/np β b)/\dE w' E' r v
theorem dE.ZgJ{w:World}{S:Nat->Prop}{β:Nat->Option qm}{n:Nat}{ω ω':Nat->Key->Prop}(h:dE w (E1 S β n ω) p x):dE w (E1 S β n ω') p x:=dE.same (E:=E1 S β n ω) (E':=E1 S β n ω') (λ_ h=>h) (λ_ _ _ h=>h) (λ_ h=>h) h
abbrev CallOk(P:Program)(f:FuncId)(args:List PV)(r:PV)(m':Mem):Prop:=fL P f args [] r m'
section
variable {w:World} {O:Nat->Prop} {E:Env} {w0:World} {m:Mem} {P:Program}
def J5(P:Program)(E:Env)(w:World)(a:Act)(o:Oper)(p:PV):Prop:=
 ∃x,(execOp a.eval o).run P w=.ok (.value x) w/\dE w E p x
def s9:List (List PV)->Option (List Int)
 | []=>YH []
 | [.v (.int .u8 n)]::rest=>(s9 rest).map (n::·)
 |_=>YI
theorem BA:∀{es:List (List PV)} {ns:List Int},s9 es=YH ns->ns.length=es.length/\∀i,i<es.length->es[i]?=YH [.v (.int .u8 (ns.getD i 0))]
 | [],ns,h=>by simp only[s9]at h;grind
 |e::es,ns,h=>by
  unfold s9 at h
  split at h
  ·grind
  ·rename_i n rest heq
   obtain⟨ms,hms,rfl⟩:=Wb.1 h;obtain⟨h1,h2⟩:=BA hms
   grind
  grind
def rI(P:Program)(m:Mem)(s d:TypeId)(x:PV)(K:PV->Prop):Prop:=
 match x with
 |.ms l=>match P.underlying s,P.underlying d with
  |some (.slice e),YH .string=>P.underlying e=YH (.int .u8)/\live m l λmb=>mb.k=1/\match s9 mb.es with
   |some ns=>K (.v (.string (strOfNums ns)))
   |none=>False
  |_,_=>False
 |x=>Cy P s d x K
theorem Ga(hk:Ok w0 O E w m){s d:TypeId}(hx:dE w E p x)(h:rI P m s d p K):∃r v,K r/\(convert s d x).run P w=.ok v w/\dE w E r v:=by
 unfold rI at h
 split at h
 ·split at h
  ·rename_i e hs hd
   obtain⟨he,h⟩:=h;obtain⟨mb,hm,UM,h⟩:=iv h
   split at h
   ·rename_i ns hns
    obtain⟨B,hB,hb,rfl⟩:=hx.tf hk hm;obtain⟨hl,FG⟩:=BA hns
    cases hz:B.z with
    |true=>
     have h0:=hb.nil hz;rw[h0]at hns
     simp only[s9,V4]at hns
     subst hns;refine⟨_,.string (strOfNums []),h,?_,.c (.v _ rfl)⟩;rw[show B.sv=.slice YI 0 0 by simp[qm.sv,hz]]
     exact run_convert_bytes_nil w s e hs he 0 0 d hd
    |false=>
     obtain⟨cells,m1,m2,m3⟩:=hb.mem hz;have hk':B.k=1:=hb.k.trans UM;refine⟨_,.string (strOfNums ns),h,?_,.c (.v _ rfl)⟩;rw[show B.sv=.slice (YH ⟨B.b,0,YI⟩) B.n B.c by simp[qm.sv,hz]]
     refine run_convert_bytes_arg w s e hs he B.b 0 B.n B.c ns (by rw[hl,hb.n]) (λi hi=>?_) d hd
     rw[hb.n]at hi
     obtain⟨y,y1,_,y3⟩:=m3 i _ 0 _ (FG i hi) rfl;rw[hk']at y1
     rw[cell_of_row w B.b _ cells B.T (0,0) m1];rw[y3.gW.1]at y1
     omega
   grind
  grind
 ·obtain⟨r,v,h1,h2,h3⟩:=I2 hx h
  grind
def qE(mx:Bool)(ps:List PV)(K:PV->Prop):Prop:=
 match ps with
 | [.v (.int k a),.v (.int k' b)]=>if mx then K (.v (.int k (if b > a then b else a)))else K (.v (.int k (if b<a then b else a)))
 |_=>False
def pZ(P:Program)(o:Op)(t:List PV)(m:Mem)(K:PV->Prop):Prop:=
 match o with
 |.move x=>K (gh t x)
 |.assign x=>K (gh t x)
 |.pick c x y=>match gh t c with
  |.v (.bool b)=>K (if b then gh t x else gh t y)
  |_=>False
 |.load T a=>rQ P T (J3 m (gh t a)) K
 |.nilCheck x=>DF m (gh t x) K
 |.binOp op T x y _=>I0 P op T (gh t x) (gh t y) K
 |.unOp op _ x=>pUn op (gh t x) K
 |.convert s d x=>rI P m s d (gh t x) K
 |.makeFunc fn first cs=>match fn,first.toList with
  |.func f,[]=>K (.fn f (cs.toList.map (gh t)))
  |_,_=>False
 |.slice T x lo hi mx=>match mx with
  |none=>kK P m T (gh t x) (lo.map (gh t)) (hi.map (gh t)) K
  |some _=>False
 |.fieldAddr S x f=>kJ P m S (gh t x) f K
 |.field T x f=>vp P T (gh t x) f K
 |.indexAddr T x i=>cL P m T (gh t x) (gh t i) K
 |.index T x i=>sF P T (gh t x) (gh t i) K
 |.extract x i=>I3 i (gh t x) K
 |.build T ps=>vo P T (ps.toList.map λq=>(q.1,gh t q.2)) K
 |.call c=>match c.callee with
  |.builtin .len=>match c.args.toList,c.argTypes.toList with
   | [x],[T]=>wB P m T (gh t x) K
   |_,_=>False
  |.builtin .min=>qE YK (c.args.toList.map (gh t)) K
  |.builtin .max=>qE YJ (c.args.toList.map (gh t)) K
  |_=>False
 |_=>False
theorem Zbd{s:Sem Value}{w w':World}(h:s.run P w=.ok x w'):(do pure (Next.value (<-s)):Sem Next).run P w=.ok (.value x) w':=by
 simp_all
theorem DO{x:α}(h:a.toList=[x]):a=#[x]:=Array.ext' X9
theorem vL{x y:α}(h:a.toList=[x,y]):a=#[x,y]:=Array.ext' X9
theorem Ly(hk:Ok w0 O E w m){t:List PV}{a:Act}(ht:rG w E t a.tmps){o:Oper}(h:pZ P o.op t m K):∃p,K p/\J5 P E w a o p:=by
 have ev:=xP ht;have fin:∀{s:Sem Value},(∃r v,K r/\(∀w',s.run P w'=.ok v w')/\dE w E r v)->(execOp a.eval o=do pure (Next.value (<-s)))->∃p,K p/\J5 P E w a o p:=by
  intro s ⟨r,v,hK,kh,tb⟩ he;exact⟨r,hK,v,by simp_all,tb⟩
 unfold pZ at h
 split at h
 ·rename_i x ho
  exact⟨_,h,a.eval x,by simp[execOp,ho],ev x⟩
 ·rename_i x ho
  exact⟨_,h,a.eval x,by simp[execOp,ho],ev x⟩
 ·rename_i c x y ho
  split at h
  ·rename_i b hc
   have h1:=ev c;rw[hc]at h1
   have h2:=h1.gW.1;refine⟨_,h,if b then a.eval x else a.eval y,by cases b<;>simp[execOp,ho,h2,asBool],?_⟩
   grind
  grind
 ·rename_i T x ho
  cases hp:J3 m (gh t x)with
  |none=>unfold rQ at h;grind
  |some cs=>
   rw[hp]at h
   obtain⟨b,off,hx,hb,hc⟩:=M6 hk (ev x) hp;obtain⟨p,v,hK,kh,tb⟩:=EA h hb hc;exact⟨p,hK,v,by simp only[execOp,ho,hx];exact Zbd (by exact kh w (Up.rfl' w)),tb⟩
 ·rename_i x ho
  unfold DF at h
  split at h
  ·rename_i l i oo hx
   obtain⟨mb,hm,hK⟩:=iv h;have h1:=ev x;rw[hx]at h1
   obtain⟨B,hB,hb,hz,e⟩:=h1.Br hk hm;exact⟨_,hK,a.eval x,by simp[execOp,ho,e],h1⟩
  ·rename_i cs hx
   have h1:=ev x;rw[hx]at h1
   have h2:∃b off,a.eval x=.pointer (YH ⟨b,off,YI⟩):=by
    generalize a.eval x=v at h1
    cases h1.LM with
    |rp _ b off=>simp
   obtain⟨b,off,h2⟩:=h2;exact⟨_,h,a.eval x,by simp[execOp,ho,h2],h1⟩
  grind
 ·rename_i op T x y Ty ho
  exact fin (K7 (ox:=x) (oy:=y) (ev x) (ev y) h) Yk
 ·rename_i op T x ho
  exact fin (O0 (ev x) h) Yk
 ·rename_i s d x ho
  obtain⟨r,v,hK,kh,tb⟩:=Ga hk (ev x) h;exact⟨r,hK,v,by simp only[execOp];simp_all,tb⟩
 ·rename_i fn first cs ho
  split at h
  ·rename_i f hf
   have TD:first=#[]:=Array.ext' X9
   subst TD;refine⟨_,h,.func (.func f) #[] (cs.map a.eval),by simp[execOp,ho,Instr.makeFunc],.fn f _ _ Ye λj p x hp hx=>?_⟩
   grind
  grind
 ·rename_i T x lo hi mx ho
  split at h
  ·refine fin (Ge hk (AI:=lo.map a.eval) (AH:=hi.map a.eval) (ev x) ?_ ?_ ?_ ?_ h) (by simp only[execOp,ho,Option.map_none])
   ·cases lo with
    |none=>grind
    |some z=>grind
   ·simp
   ·cases hi with
    |none=>grind
    |some z=>grind
   simp
  grind
 ·rename_i S x f ho
  exact fin (zz hk (ev x) h) Yk
 ·rename_i T x f ho
  exact fin (Gb (ev x) h) Yk
 ·rename_i T x i ho
  exact fin (zB hk (ev x) (ev i) h) Yk
 ·rename_i T x i ho
  exact fin (Gc (ev x) (ev i) h) Yk
 ·rename_i x i ho
  exact fin (K9 (ev x) h) Yk
 ·rename_i T ps ho
  refine fin (F8 (vs:=ps.map fun(i,x)=>(i,a.eval x)) Ye (λj i p hj=>?_) h) Yk
  grind
 ·rename_i c ho
  split at h
  ·rename_i hc
   split at h
   ·rename_i x T hx hT
    obtain⟨callee,args,argTypes⟩:=c;have ha:=DO hx;have hTs:=DO hT;subst hc ha hTs;obtain⟨r,v,hK,kh,tb⟩:=Lb (ty:=o.type) hk (ev x) h;exact⟨r,hK,v,by simp[execOp,ho,resolve,invoke,builtin,kh],tb⟩
   grind
  ·rename_i hc
   unfold qE at h
   split at h
   ·rename_i k a1 k' b1 hargs
    obtain⟨callee,args,argTypes⟩:=c;subst hc;obtain⟨x,l,e1,hx,e2⟩:=Xb.1 hargs;obtain⟨y,l2,e3,hy,e4⟩:=Xb.1 e2;rw[List.map_eq_nil_iff.1 e4]at e3
    rw[e3]at e1
    have ha:=vL e1;subst ha;have vx:=ev x;rw[hx]at vx
    have vy:=ev y;rw[hy]at vy
    have vx:=vx.gW.1;have vy:=vy.gW.1;exact⟨_,h,.int k (if b1<a1 then b1 else a1),by simp[execOp,ho,resolve,invoke,builtin,vx,vy,run_min_int2],.c (.v _ rfl)⟩
   grind
  ·rename_i hc
   unfold qE at h
   split at h
   ·rename_i k a1 k' b1 hargs
    obtain⟨callee,args,argTypes⟩:=c;subst hc;obtain⟨x,l,e1,hx,e2⟩:=Xb.1 hargs;obtain⟨y,l2,e3,hy,e4⟩:=Xb.1 e2;rw[List.map_eq_nil_iff.1 e4]at e3
    rw[e3]at e1
    have ha:=vL e1;subst ha;have vx:=ev x;rw[hx]at vx
    have vy:=ev y;rw[hy]at vy
    have vx:=vx.gW.1;have vy:=vy.gW.1;exact⟨_,h,.int k (if b1 > a1 then b1 else a1),by simp[execOp,ho,resolve,invoke,builtin,vx,vy,run_max_int2],.c (.v _ rfl)⟩
   grind
  grind
 grind
def yC(m:Mem)(p:PV)(K:PV->Prop):Prop:=
 match p with
 |.ms l=>live m l λmb=>K (@ite PV (∀cs∈mb.es,∀q∈cs,r9 q=YJ) (Classical.propDecidable _) (.sl mb.es) .un)
 |.ss l a b=>live m l λmb=>(∀cs∈mb.es,∀q∈cs,r9 q=YJ)/\K (.sl ((mb.es.drop a).take (b-a)))
 |.v x=>K (.v x)
 |.sl es=>K (.sl es)
 |.rp cs=>K (.rp cs)
 |.un=>K .un
 |.ud=>K .ud
 |_=>False
def CY(m:Mem):List PV->(List PV->Prop)->Prop
 | [],K=>K []
 |c::cs,K=>yC m c λc'=>CY m cs λqu=>K (c'::qu)
def CZ(m:Mem)(p:PV)(K:PV->Prop):Prop:=
 match p with
 |.ag cs=>CY m cs λqu=>K (.ag qu)
 |p=>yC m p K
def yB(m:Mem):List PV->(List PV->Prop)->Prop
 | [],K=>K []
 |c::cs,K=>CZ m c λc'=>yB m cs λqu=>K (c'::qu)
def Qc(E:Env)(b:Nat):Prop:=E.S b\/np E.β b
theorem fg.all{S S':Nat->Prop}(h:fg w S p x)(hS:∀b,S b->S' b):fg w S' p x:=h.ext hS λ_ _ _=>rfl
theorem dE.ZgI(h:dE w E p x)(hc:ur p=YJ):fg w E.S p x:=by
 cases h with
 |c h=>exact h
 |_=>simp[ur]at hc
theorem dE.toC(h:dE w E p x)(hc:r9 p=YJ):fg w E.S p x:=by
 cases h with
 |c h=>exact h
 |fn f cs vs hl hr=>
  simp only[r9,V2]at hc
  exact .fn f cs vs hl λj p x hp hx=>(hr j p x hp hx).ZgI (hc p (VV hp))
 |_=>simp[r9,ur]at hc
theorem CS(hB:E.β l=YH B)(hb:gm w E mb B)(tD:∀cs∈mb.es,∀q∈cs,r9 q=YJ){S:Nat->Prop}(hS:∀b,E.S b->S b)(hSB:B.z=YK->S B.b){a b:Nat}(B8:a<=b)(Rf:b<=B.n){A:Option Addr}{c:Nat}
 (hA:a<b->B.z=YK/\A=YH ⟨B.b,a*B.k,YI⟩/\b-a<=c/\c<=maxLen):fg w S (.sl ((mb.es.drop a).take (b-a))) (.slice A (b-a) c):=by
 have hel:((mb.es.drop a).take (b-a)).length=b-a:=by rw[List.length_take,List.length_drop,<-hb.n];omega
 rcases Nat.lt_or_ge a b with bU|yM
 ·obtain⟨hz,rfl,Ax,GN⟩:=hA bU
  obtain⟨cells,m1,m2,m3⟩:=hb.mem hz;have get:∀{i:Nat} {cs:List PV},((mb.es.drop a).take (b-a))[i]?=YH cs->mb.es[a+i]?=YH cs:=by
   grind
  have hex:∀ij:Nat×Nat,∃u:Value,∀cs p,mb.es[a+ij.1]?=YH cs->cs[ij.2]?=YH p->cells[(a+ij.1)*B.k+ij.2]?=YH u/\u.oneCell'=YJ/\fg w S p u:=by
   intro⟨i,j⟩
   cases hi:mb.es[a+i]? with
   |none=>simp
   |some cs=>
    cases hj:cs[j]? with
    |none=>exact⟨YO,λqu p h h'=>by grind⟩
    |some p=>
     obtain⟨u,u1,u2,u3⟩:=m3 _ cs j p hi hj;refine⟨u,λqu p' h h'=>?_⟩
     simp at h
     subst h;simp only[hj,V4]at h'
     subst h';exact⟨u1,u2,(u3.toC (tD cs (VV hi) p (VV hj))).all hS⟩
  obtain⟨f,hf⟩:=W8 hex;have key:=fg.sl (w:=w) (S:=S) ((mb.es.drop a).take (b-a)) B.b (a*B.k) B.k c (λi j=>f (i,j)) (hSB hz) hb.pos X9 GN (λi cs hi=>hb.es _ cs (get hi))
   (λi cs j p hi hj=>by
    have:=(hf (i,j) cs p (get hi) hj).1;rw[cell_of_row w B.b _ cells B.T (0,0) m1]
    grind) (λi cs j p hi hj=>(hf (i,j) cs p (get hi) hj).2.1) λi cs j p hi hj=>(hf (i,j) cs p (get hi) hj).2.2
  grind
 ·have hba:b-a=0:=X9
  rw[hba];exact .nil _ _
theorem ZaB(hb:gm w E mb B):∃A c,B.sv=.slice A B.n c/\(0<B.n->B.z=YK/\A=YH ⟨B.b,0,YI⟩/\B.n<=c/\c<=maxLen):=by
 cases hz:B.z with
 |true=>exact⟨YI,0,by simp[qm.sv,hz,hb.n,hb.nil hz],λh=>by rw[hb.n,hb.nil hz]at h;grind⟩
 |false=>exact⟨_,_,by simp[qm.sv,hz],λ_=>⟨rfl,rfl,hb.nc,hb.cm⟩⟩
theorem M8(hB:E.β l=YH B)(hb:gm w E mb B)(tD:∀cs∈mb.es,∀q∈cs,r9 q=YJ){S:Nat->Prop}(hS:∀b,E.S b->S b)(hSB:B.z=YK->S B.b):fg w S (.sl mb.es) B.sv:=by
 obtain⟨A,c,On,hA⟩:=ZaB hb;have:=CS hB hb tD hS hSB (a:=0) (b:=B.n) (Wu _) (Nat.le_refl _) (A:=A) (c:=c) Yd;rw[On]
 simpa[hb.n]using this
theorem ER(hk:Ok w0 O E w m)(hx:dE w E p x)(h:yC m p K):∃q,K q/\fg w (Qc E) q x/\r9 q=true:=by
 unfold yC at h
 split at h
 ·rename_i l
  obtain⟨mb,hm,hK⟩:=iv h
  by_cases tD:∀cs∈mb.es,∀q∈cs,r9 q=YJ
  ·rw[if_pos tD]at hK
   obtain⟨B,hB,hb,rfl⟩:=hx.tf hk hm;exact⟨_,hK,M8 hB hb tD (λb hb=>.inl hb) λhz=>.inr ⟨l,B,hB,hz,rfl⟩,rfl⟩
  ·rw[if_neg tD]at hK
   exact⟨_,hK,.un x,rfl⟩
 ·rename_i l a b
  obtain⟨mb,hm,tD,hK⟩:=iv h;obtain⟨B,hB,hb,A,c,rfl,B8,Rf,hA⟩:=hx.zH hk hm;exact⟨_,hK,CS hB hb tD (λb hb=>.inl hb) (λhz=>.inr ⟨l,B,hB,hz,rfl⟩) B8 Rf hA,rfl⟩
 ·exact⟨_,h,(hx.toC rfl).all λb hb=>.inl hb,rfl⟩
 ·exact⟨_,h,(hx.toC rfl).all λb hb=>.inl hb,rfl⟩
 ·exact⟨_,h,(hx.toC rfl).all λb hb=>.inl hb,rfl⟩
 ·exact⟨_,h,(hx.toC rfl).all λb hb=>.inl hb,rfl⟩
 ·exact⟨_,h,(hx.toC rfl).all λb hb=>.inl hb,rfl⟩
 grind
def Zdd(w:World)(S:Nat->Prop)(q:PV)(x:Value):Prop:=∀β n ω,dE w (E1 S β n ω) q x
theorem ES(hk:Ok w0 O E w m):∀(cs:List PV) (vs:List Value) (K:List PV->Prop),vs.length=cs.length->(∀(j:Nat) (p:PV) (x:Value),cs[j]?=YH p->vs[j]?=YH x->dE w E p x)->CY m cs K->
 ∃ds,K ds/\ds.length=cs.length/\∀(j:Nat) (q:PV) (x:Value),ds[j]?=YH q->vs[j]?=YH x->fg w (Qc E) q x
 | [],[],K,_,_,h=>⟨[],h,rfl,by simp⟩
 | [],_::_,_,hl,_,_=>by grind
 |_::_,[],_,hl,_,_=>by grind
 |c::cs,v::vs,K,hl,hr,h=>by
  obtain⟨q,hK,hq,_⟩:=ER hk (hr 0 c v rfl rfl) h;obtain⟨ds,hK',hdl,hd⟩:=ES hk cs vs _ Yd (λj p x hp hx=>hr (j+1) p x Yd Yd) hK
  grind
theorem PG(hk:Ok w0 O E w m)(hx:dE w E p x)(h:CZ m p K):∃q,K q/\Zdd w (Qc E) q x:=by
 unfold CZ at h
 split at h
 ·rename_i cs
  obtain⟨vs,rfl,hl,h1,hr⟩:=hx.qq;obtain⟨ds,hK,hdl,hd⟩:=ES hk cs vs.toList _ X9 (λj p x hp hx=>hr j p x hp Yd) h
  exact⟨_,hK,λβ n ω=>.ag ds vs X9 h1 λj p x hp hx=>.c (hd j p x hp Yd)⟩
 ·obtain⟨q,hK,hq,_⟩:=ER hk hx h
  exact⟨q,hK,λβ n ω=>.c hq⟩
theorem EP(hk:Ok w0 O E w m):∀(cs:List PV) (vs:List Value) (K:List PV->Prop),vs.length=cs.length->(∀(j:Nat) (p:PV) (x:Value),cs[j]?=YH p->vs[j]?=YH x->dE w E p x)->yB m cs K->
 ∃ds,K ds/\ds.length=cs.length/\∀(j:Nat) (q:PV) (x:Value),ds[j]?=YH q->vs[j]?=YH x->Zdd w (Qc E) q x
 | [],[],K,_,_,h=>⟨[],h,rfl,by simp⟩
 | [],_::_,_,hl,_,_=>by grind
 |_::_,[],_,hl,_,_=>by grind
 |c::cs,v::vs,K,hl,hr,h=>by
  obtain⟨q,hK,hq⟩:=PG hk (hr 0 c v rfl rfl) h;obtain⟨ds,hK',hdl,hd⟩:=EP hk cs vs _ Yd (λj p x hp hx=>hr (j+1) p x Yd Yd) hK
  grind
end
def uN(σ:Nat->Nat):PV->PV
 |.ms l=>.ms (σ l)
 |.ss l a b=>.ss (σ l) a b
 |.be l i o=>.be (σ l) i o
 |p=>p
def rW(σ:Nat->Nat):PV->PV
 |.fn f cs=>.fn f (cs.map (uN σ))
 |p=>uN σ p
def yw(σ:Nat->Nat):PV->PV
 |.ag cs=>.ag (cs.map (rW σ))
 |p=>rW σ p
def yx(σ:Nat->Nat):PV->PV
 |.tu vs=>.tu (vs.map (yw σ))
 |p=>yw σ p
def rR(σ:Nat->Nat)(es:List (List PV)):List (List PV):=es.map (·.map (rW σ))
def mV(σ:Nat->Nat)(mb:MB):MB:=⟨mb.T,mb.k,rR σ mb.es⟩
def Ck:PV->Bool
 |.ag _|.tu _|.fn _ _=>YK
 |_=>YJ
def eC(flat:Bool):PV->Prop
 |.fn _ cs=>flat=YK/\∀c∈cs,Ck c=YJ
 |p=>flat=YJ->IA p=YJ
def sT(flat:Bool):PV->Prop
 |.ag cs=>∀c∈cs,eC flat c
 |.tu _=>False
 |p=>eC flat p
def qK(flat:Bool):PV->Prop
 |.tu vs=>∀v∈vs,sT flat v
 |p=>sT flat p
theorem Zab{σ:Nat->Nat}(h:rW σ p=.sl es):p=.sl es:=by
 unfold rW at h
 split at h
 ·cases h
 ·cases p<;>simp[uN]at h⊢<;>exact h
theorem fg.flat{w:World}{S S':Nat->Prop}(hF:IA p=YJ)(h:fg w S p x):fg w S' p x:=by
 cases h with
 |v x h=>exact .v x h
 |ud=>exact .ud
 |un x=>exact .un x
 |_=>simp[IA]at hF
def vh:PV->Bool
 |.sl es=>es.all λcs=>cs.all IA
 |_=>YK
theorem fg.key{w:World}{S S':Nat->Prop}(hF:vh (.sl es)=YJ)(hb:es≠[]->∀b off n c,x=.slice (YH ⟨b,off,YI⟩) n c->S' b)(h:fg w S (.sl es) x):fg w S' (.sl es) x:=by
 cases h with
 |nil A c=>exact .nil A c
 |sl es b off k c u hS hk hn hm xT hc h1 hr=>
  by_cases iq:es=[]
  ·subst iq;exact .nil _ _
  ·refine .sl es b off k c u (hb iq b off _ c rfl) hk hn hm xT hc h1 λi cs j p hi hj=>(hr i cs j p hi hj).flat ?_
   exact V2.1 (V2.1 hF cs (VV hi)) p (VV hj)
section
variable {w':World} {E' E2:Env} {σ:Nat->Nat} {flat:Bool}
theorem Jo(xr:∀l B,E'.used l->E2.β (σ l)=YH B->E'.β l=YH B)(hu:∀l,E'.used l->E2.used (σ l))(hS:∀p x,(flat=YJ->IA p=YJ)->fg w' E'.S p x->fg w' E2.S p x)
 (h:dE w' E' p x) (hp:Ck p=YJ) (hG:flat=YJ->IA p=YJ):dE w' E2 (uN σ p) x:=by
 cases h with
 |c h=>
  have:uN σ p=p:=by cases h<;>rfl
  rw[this];exact .c (hS p x hG h)
 |ms l _ hl h1 h=>exact .ms _ _ (hu l hl) h1 λB hB=>h B (xr l B hl hB)
 |ss l a b _ hl h1 h=>exact .ss _ _ _ _ (hu l hl) h1 λB hB=>h B (xr l B hl hB)
 |be l i o _ hl h1 h=>exact .be _ _ _ _ (hu l hl) h1 λB hB=>h B (xr l B hl hB)
 |ag cs=>simp[Ck]at hp
 |tu cs=>simp[Ck]at hp
 |fn f cs=>simp[Ck]at hp
theorem CN(xr:∀l B,E'.used l->E2.β (σ l)=YH B->E'.β l=YH B)(hu:∀l,E'.used l->E2.used (σ l))(hS:∀p x,(flat=YJ->IA p=YJ)->fg w' E'.S p x->fg w' E2.S p x)
 (h:dE w' E' p x) (hp:eC flat p) (hna:∀cs,p≠.ag cs) (hnt:∀cs,p≠.tu cs):dE w' E2 (rW σ p) x:=by
 cases p with
 |fn f cs=>
  obtain⟨Og,sL⟩:=hp;obtain⟨vs,rfl,hl,hr⟩:=h.FA;refine .fn f _ vs Yd λj q x hq hx=>?_
  rw[Wj]at hq
  cases hc:cs[j]? with
  |none=>grind
  |some c=>
   simp only[hc,WB,V4]at hq
   subst hq;exact Jo xr hu hS (hr j c x hc hx) (sL c (VV hc)) (λh=>by grind)
 |ag cs=>grind
 |tu cs=>grind
 |_=>exact Jo xr hu hS h rfl hp
theorem Jp(xr:∀l B,E'.used l->E2.β (σ l)=YH B->E'.β l=YH B)(hu:∀l,E'.used l->E2.used (σ l))(hS:∀p x,(flat=YJ->IA p=YJ)->fg w' E'.S p x->fg w' E2.S p x)
 (h:dE w' E' p x) (hp:sT flat p):dE w' E2 (yw σ p) x:=by
 cases p with
 |ag cs=>
  obtain⟨vs,rfl,hl,h1,hr⟩:=h.qq;refine .ag _ vs Yd h1 λj q x hq hx=>?_
  rw[Wj]at hq
  cases hc:cs[j]? with
  |none=>grind
  |some c=>
   simp only[hc,WB,V4]at hq
   subst hq;have hrc:=hr j c x hc hx;have wW:=h1 j x hx;refine CN xr hu hS hrc (hp c (VV hc)) (λcs e=>?_) (λcs e=>?_)
   ·subst e;obtain⟨_,rfl,_⟩:=hrc.qq;simp[Value.oneCell']at wW
   ·subst e;obtain⟨_,rfl,_⟩:=hrc.xo;simp[Value.oneCell']at wW
 |tu vs=>exact hp.elim
 |_=>exact CN xr hu hS h hp Ye Ye
theorem SO(xr:∀l B,E'.used l->E2.β (σ l)=YH B->E'.β l=YH B)(hu:∀l,E'.used l->E2.used (σ l))(hS:∀p x,(flat=YJ->IA p=YJ)->fg w' E'.S p x->fg w' E2.S p x)
 (h:dE w' E' p x) (hp:qK flat p):dE w' E2 (yx σ p) x:=by
 cases p with
 |tu ps=>
  obtain⟨vs,rfl,hl,hr⟩:=h.xo;refine .tu _ vs Yd λj q x hq hx=>?_
  rw[Wj]at hq
  cases hc:ps[j]? with
  |none=>grind
  |some c=>
   simp only[hc,WB,V4]at hq
   subst hq;exact Jp xr hu hS (hr j c x hc hx) (hp c (VV hc))
 |_=>exact Jp xr hu hS h hp
end
/-! The other aG round: L3 a callee is handed. -/
def AB(n:Nat):PV->Bool
 |.ms l=>YL (l<n)
 |.ss l _ _=>YL (l<n)
 |.be l _ _=>YL (l<n)
 |_=>YJ
def w9(n:Nat):PV->Bool
 |.fn _ cs=>cs.all (AB n)
 |p=>AB n p
def FT(n:Nat):PV->Bool
 |.ag cs=>cs.all (w9 n)
 |p=>w9 n p
section
variable {w:World} {E:Env} {S:Nat->Prop} {β:Nat->Option qm} {n:Nat} {σ:Nat->Nat}
theorem Nu(xr:∀l B,β l=YH B->E.β (σ l)=YH B)(hS:∀b,E.S b->S b)(h:dE w E (uN σ p) x)(hp:Ck p=YJ)(Cf:AB n p=YJ):dE w (E1 S β n ω) p x:=by
 cases p with
 |ms l=>
  cases h with
  |c h=>cases h
  |ms _ _ hl h1 h=>exact .ms _ _ (show _<n by simpa[AB]using Cf) h1 λB hB=>h B (xr l B hB)
 |ss l a b=>
  cases h with
  |c h=>cases h
  |ss _ _ _ _ hl h1 h=>exact .ss _ _ _ _ (show _<n by simpa[AB]using Cf) h1 λB hB=>h B (xr l B hB)
 |be l i o=>
  cases h with
  |c h=>cases h
  |be _ _ _ _ hl h1 h=>exact .be _ _ _ _ (show _<n by simpa[AB]using Cf) h1 λB hB=>h B (xr l B hB)
 |ag cs=>simp[Ck]at hp
 |tu cs=>simp[Ck]at hp
 |fn f cs=>simp[Ck]at hp
 |v y=>cases h with|c h=>exact .c (h.all hS)
 |ud=>cases h with|c h=>exact .c (h.all hS)
 |un=>cases h with|c h=>exact .c (h.all hS)
 |sl es=>cases h with|c h=>exact .c (h.all hS)
 |rp cs=>cases h with|c h=>exact .c (h.all hS)
theorem GF(xr:∀l B,β l=YH B->E.β (σ l)=YH B)(hS:∀b,E.S b->S b)(h:dE w E (rW σ p) x)(hp:eC YK p)(Cf:w9 n p=YJ)(hna:∀cs,p≠.ag cs)(hnt:∀cs,p≠.tu cs):dE w (E1 S β n ω) p x:=by
 cases p with
 |fn f cs=>
  obtain⟨vs,rfl,hl,hr⟩:=h.FA;simp only[w9,V2]at Cf
  refine .fn f _ vs Yd λj q x hq hx=>?_
  exact Nu xr hS (hr j (uN σ q) x Yd hx) (hp.2 q (VV hq)) (Cf q (VV hq))
 |ag cs=>grind
 |tu cs=>grind
 |_=>exact Nu xr hS h rfl Cf
theorem ZaL(xr:∀l B,β l=YH B->E.β (σ l)=YH B)(hS:∀b,E.S b->S b)(h:dE w E (yw σ p) x)(hp:sT YK p)(Cf:FT n p=YJ):dE w (E1 S β n ω) p x:=by
 cases p with
 |ag cs=>
  obtain⟨vs,rfl,hl,h1,hr⟩:=h.qq;simp only[FT,V2]at Cf
  refine .ag _ vs Yd h1 λj q x hq hx=>?_
  have hrc:=hr j (rW σ q) x Yd hx;have wW:=h1 j x hx;refine GF xr hS hrc (hp q (VV hq)) (Cf q (VV hq)) (λcs e=>?_) (λcs e=>?_)
  ·subst e;obtain⟨_,rfl,_⟩:=dE.qq hrc;simp[Value.oneCell']at wW
  ·subst e;obtain⟨_,rfl,_⟩:=dE.xo hrc;simp[Value.oneCell']at wW
 |tu vs=>exact hp.elim
 |_=>exact GF xr hS h hp Cf Ye Ye
end
def sig(ρ:List Nat)(ν:Nat)(i:Nat):Nat:=if i<ρ.length then ρ.getD i 0 else ν+(i-ρ.length)
def o8(σ:Nat->Nat)(m:Mem)(n:Nat):List Nat->Mem->Prop
 | [],[]=>True
 |l::ρ,YH J2::m0=>m[l]?=YH (YH (mV σ J2))/\(∀cs∈J2.es,∀p∈cs,eC YK p/\w9 n p=YJ)/\o8 σ m n ρ m0
 |_,_=>False
def oI(σ:Nat->Nat):List Nat->Mem->Mem->Mem
 |l::ρ,r::m1,m=>oI σ ρ m1 (m.set l (r.map (mV σ)))
 |_,_,m=>m
def jz(σ:Nat->Nat):Nat->Mem->Mem->Mem
 |_,[],m=>m
 |ν,YH mb::m1,m=>jz σ (ν+1) m1 (oG m ν (mV σ mb))
 |ν,YI::m1,m=>jz σ (ν+1) m1 ((m++V7 (ν+1-m.length) YI).set ν YI)
theorem sy{σ:Nat->Nat}{m:Mem}{n:Nat}:∀{ρ:List Nat} {m0:Mem},o8 σ m n ρ m0->ρ.length=m0.length/\∀(i l:Nat),ρ[i]?=YH l->∃J2:MB,m0[i]?=YH (YH J2)/\m[l]?=YH (YH (mV σ J2))/\∀cs∈J2.es,∀p∈cs,eC YK p/\w9 n p=YJ
 | [],[],_=>⟨rfl,by simp⟩
 | [],_::_,h=>h.elim
 |_::_,[],h=>h.elim
 |l::ρ,YI::m0,h=>h.elim
 |l::ρ,YH J2::m0,h=>by
  obtain⟨h1,h2⟩:=sy h.2.2;refine⟨by grind,λi l' hi=>?_⟩
  cases i with
  |zero=>
   obtain rfl:l=l':=by grind
   exact⟨J2,rfl,h.1,h.2.1⟩
  |succ i=>grind
theorem EI{σ:Nat->Nat}:∀(ρ:List Nat) (m1 m:Mem),(oI σ ρ m1 m).length=m.length
 | [],_,_=>by rfl
 |_::_,[],_=>by rfl
 |l::ρ,r::m1,m=>by unfold oI;rw[EI];simp
theorem CK{σ:Nat->Nat}:∀(ρ:List Nat) (m1 m:Mem) (l:Nat),l ∉ ρ->(oI σ ρ m1 m)[l]?=m[l]?
 | [],_,_,_,_=>by rfl
 |_::_,[],_,_,_=>by rfl
 |k::ρ,r::m1,m,l,hl=>by
  unfold oI;rw[CK ρ m1 _ l (λh=>hl (Wk _ h)),Wx Yd]
theorem EH{σ:Nat->Nat}:∀(ρ:List Nat) (m1 m:Mem),ρ.Nodup->(∀l∈ρ,l<m.length)->ρ.length<=m1.length->∀(i l:Nat),ρ[i]?=YH l->(oI σ ρ m1 m)[l]?=(m1[i]?).map (Option.map (mV σ))
 | [],_,_,_,_,_,_,_,h=>by grind
 |_::_,[],_,_,_,hl,_,_,_=>by grind
 |k::ρ,r::m1,m,hn,bU,hl,i,l,hi=>by
  unfold oI;rw[List.nodup_cons]at hn
  cases i with
  |zero=>
   obtain rfl:k=l:=by grind
   rw[CK ρ m1 _ k hn.1,WL (bU k Wp)];rfl
  |succ i=>
   rw[EH ρ m1 _ hn.2 (λl' FI=>by grind) Yd i l Yd]
   simp
theorem xh{σ:Nat->Nat}:∀(ν:Nat) (m1 m:Mem),m.length<=(jz σ ν m1 m).length/\∀i,i<m1.length->ν+i<(jz σ ν m1 m).length
 |ν,[],m=>by unfold jz;simp
 |ν,YH mb::m1,m=>by
  unfold jz;obtain⟨h1,h2⟩:=xh (σ:=σ) (ν+1) m1 (oG m ν (mV σ mb));rw[Ct]at h1
  refine⟨X9,λi hi=>?_⟩
  cases i with
  |zero=>omega
  |succ i=>have:=h2 i Yd;omega
 |ν,YI::m1,m=>by
  unfold jz;obtain⟨h1,h2⟩:=xh (σ:=σ) (ν+1) m1 ((m++V7 (ν+1-m.length) YI).set ν YI);simp at h1
  refine⟨X9,λi hi=>?_⟩
  cases i with
  |zero=>omega
  |succ i=>have:=h2 i Yd;omega
theorem xg{σ:Nat->Nat}:∀(ν:Nat) (m1 m:Mem) (l:Nat) (mb:MB),(jz σ ν m1 m)[l]?=YH (YH mb)->(∃i OM,l=ν+i/\m1[i]?=YH (YH OM)/\mb=mV σ OM)\/m[l]?=YH (YH mb)
 |ν,[],m,l,mb,h=>by unfold jz at h;grind
 |ν,YH OM::m1,m,l,mb,h=>by
  rcases xg (σ:=σ) (ν+1) m1 _ l mb h with⟨i,mb2,rfl,h1,h2⟩ |h'
  ·grind
  ·by_cases hl:l=ν
   ·subst hl
    rw[tP]at h'
    grind
   ·exact .inr ((yl hl).1 h')
 |ν,YI::m1,m,l,mb,h=>by
  rcases xg (σ:=σ) (ν+1) m1 _ l mb h with⟨i,mb2,rfl,h1,h2⟩ |h'
  all_goals grind
def sW(m:Mem)(l:Nat):Bool:=match m[l]? with
 |some (YH _)=>YJ
 |_=>YK
theorem tK{m:Mem}:sW m l=YJ↔∃mb,m[l]?=YH (YH mb):=by
 unfold sW
 grind
theorem gm.renamed{w':World}{E' E2:Env}{σ:Nat->Nat}{flat:Bool}(h:gm w' E' mb B)(hg:∀cs∈mb.es,∀p∈cs,eC flat p\/mb.T.kd.isSome=YJ/\vh p=YJ)(xr:∀l B,E'.used l->E2.β (σ l)=YH B->E'.β l=YH B)(hu:∀l,E'.used l->E2.used (σ l))
 (hS:∀p x,(flat=YJ->IA p=YJ)->fg w' E'.S p x->fg w' E2.S p x) (hω:∀b q,E'.ω b q->E2.ω b q/\E2.S b):gm w' E2 (mV σ mb) B:=by
 refine⟨h.k,by rw[h.n];simp[mV,rR],h.T,h.pos,h.nc,h.cm,λi cs hi=>?_,λhz=>by simp[mV,rR,h.nil hz],λhz=>?_,λT hT hz i cs j es x hi hj iq hc=>?_⟩
 ·simp only[mV,rR,Wj]at hi
  obtain⟨cs0,h0,rfl⟩:=Wb.1 hi;rw[List.length_map];exact h.es i cs0 h0
 ·obtain⟨cells,m1,m2,m3⟩:=h.mem hz
  refine⟨cells,m1,m2,λi cs j p hi hj=>?_⟩
  simp only[mV,rR,Wj]at hi
  obtain⟨cs0,h0,rfl⟩:=Wb.1 hi;rw[Wj]at hj
  obtain⟨p0,hp0,rfl⟩:=Wb.1 hj;obtain⟨x,x1,x2,x3⟩:=m3 i cs0 j p0 h0 hp0
  rcases hg cs0 (VV h0) p0 (VV hp0)with hgg|⟨hgk,hgp⟩
  rotate_left
  ·refine⟨x,x1,x2,?_⟩
   cases p0 with
   |sl es=>
    cases x3 with
    |c hc=>
     refine .c (hc.key hgp λiq b off n c e=>?_)
     obtain⟨T,hT⟩:=Option.isSome_iff_exists.1 hgk;obtain⟨b',c',k',Ug,a1,a2,a3⟩:=h.key T hT hz i cs0 j es x h0 hp0 iq (by simp[World.cell?,m1,x1])
     grind
   |_=>simp[vh]at hgp
  refine⟨x,x1,x2,CN xr hu hS x3 hgg (λcs e=>?_) (λcs e=>?_)⟩
  ·subst e;obtain⟨_,rfl,_⟩:=x3.qq;simp[Value.oneCell']at x2
  ·subst e;obtain⟨_,rfl,_⟩:=x3.xo;simp[Value.oneCell']at x2
 ·simp only[mV,rR,Wj]at hi
  obtain⟨cs0,h0,rfl⟩:=Wb.1 hi;rw[Wj]at hj
  obtain⟨p0,hp0,he⟩:=Wb.1 hj;obtain rfl:=Zab he;obtain⟨b,c,k,Ug,a1,a2,a3⟩:=h.key T hT hz i cs0 j es x h0 hp0 iq hc;exact⟨b,c,k,Ug,a1,(hω b _ a2).1,a3⟩
section
variable {w:World} {O:Nat->Prop} {E:Env} {w0:World} {m:Mem} {P:Program}
open Classical in
theorem Hg(hk:Ok w0 O E w m){ν:Nat}{f:FuncId}{qs:List PV}{vs:Array Value}{ρ:List Nat}{m0 m1:Mem}{r:PV}{flat:Bool}{S:Nat->Prop}(hc:fL P f qs m0 r m1)(vT:∀i,i<m1.length-m0.length->¬E.used (ν+i))(hle:m0.length<=m1.length)
 (hl:vs.size=qs.length) (hargs:∀β:Nat->Option qm,(∀l B,β l=YH B->E.β (sig ρ ν l)=YH B)->∀(i:Nat) (p:PV),qs[i]?=YH p->∃x,vs[i]?=YH x/\dE w (E1 S β m0.length E.ω) p x)
 (hn:ρ.Nodup) (u9:o8 (sig ρ ν) m m0.length ρ m0) (hS1:∀b,E.S b->S b) (Ib:flat=YK->S=E.S) (Og:flat=YJ->m0=[]) (ZfO:∀b,S b->b<w.heap.size)
 (Io:∀mb,YH mb∈m1->∀cs∈mb.es,∀p∈cs,eC flat p\/mb.T.kd.isSome=YJ/\vh p=YJ) (hr:qK flat r):
 Calls P f vs w λe w'=>∃v E2,e=.returned v/\Ok w0 O E2 w' (jz (sig ρ ν) ν (m1.drop ρ.length) (oI (sig ρ ν) ρ m1 m))/\Ext w w' E E2/\dE w' E2 (yx (sig ρ ν) r) v/\∀l,E2.used l->E.used l\/(ν<=l/\l<ν+(m1.length-m0.length)):=by
 obtain⟨RI,hρ⟩:=sy u9;have Gw:∀{i l},ρ[i]?=YH l->sig ρ ν i=l:=λ{i l} h=>by
  have hi:i<ρ.length:=(VT.1 h).1;unfold sig Xz;rw[if_pos hi,h];rfl
 have qG:∀{i},i<ρ.length->∃l,ρ[i]?=YH l/\sig ρ ν i=l:=λ{i} hi=>⟨ρ[i],VU hi,Gw (VU hi)⟩
 have zG:∀{i},¬i<ρ.length->sig ρ ν i=ν+(i-ρ.length):=λ{i} hi=>by simp[sig,hi]
 have xY:∀{i},i<m1.length->E.used (sig ρ ν i)->i<ρ.length:=λ{i} hi hu=>by
  by_cases h:i<ρ.length
  ·exact h
  ·rw[zG h]at hu
   exact absurd hu (vT _ X9)
 have UW:∀l∈ρ,E.used l:=λl hl=>by
  obtain⟨i,hi⟩:=WD hl;obtain⟨J2,_,h2,_⟩:=hρ i l hi;exact l6 hk h2
 have Gv:∀{i j},i<m1.length->j<m1.length->sig ρ ν i=sig ρ ν j->i=j:=by
  intro i j hi hj e
  by_cases h1:i<ρ.length<;>by_cases h2:j<ρ.length
  ·obtain⟨a,ha,ea⟩:=qG h1
   obtain⟨b,hb,eb⟩:=qG h2;have B8:a=b:=by rw[<-ea,<-eb,e]
   subst B8;rw[VU h1,V4]at ha
   rw[VU h2,V4]at hb
   rcases WJ i j with h3|h3|h3
   ·exact absurd (ha.trans hb.symm) (Ws.1 hn i j h1 h2 h3)
   ·exact h3
   ·exact absurd (hb.trans ha.symm) (Ws.1 hn j i h2 h1 h3)
  ·obtain⟨a,ha,ea⟩:=qG h1
   have:=xY hj (by rw[<-e,ea];exact UW a (VV ha))
   omega
  ·obtain⟨b,hb,eb⟩:=qG h2
   have:=xY hi (by rw[e,eb];exact UW b (VV hb))
   omega
  ·rw[zG h1,zG h2]at e;omega
 -- the Zdp rows
 let β:Nat->Option qm:=λi=>if i<ρ.length then E.β (sig ρ ν i)else YI
 have DB:∀{i B},β i=YH B->i<ρ.length/\E.β (sig ρ ν i)=YH B:=λ{i B} h=>by
  simp only[β]at h
  split at h
  ·exact⟨by assumption,h⟩
  ·cases h
 have hnS:∀l B,E.β l=YH B->B.z=YK->l∈ρ->¬S B.b:=λl B hB hz Zd6=>by
  cases flat with
  |false=>rw[Ib rfl];exact(hk.own l B hB hz).2.2
  |true=>
   have:=Og rfl;rw[this]at RI
   rw[Xp.1 RI]at Zd6
   cases Zd6
 have Zf6:Ok w (np β) (E1 S β m0.length E.ω) w m0:=by
  refine⟨Dp.refl _ _,ZfO,λl B hB hz=>?_,λl l' B B' hB nB hz uM e=>?_,λl hl=>hl,λl B hB=>?_,λl J2 hm0=>?_,λl B hB=>?_,hk.ZgH λb hb=>?_,λb q hq=>⟨hS1 b (hk.ow b q hq).1,(hk.ow b q hq).2⟩⟩
  ·obtain⟨h1,h2⟩:=DB hB
   obtain⟨a,ha,ea⟩:=qG h1;rw[ea]at h2
   exact⟨.inl ⟨l,B,hB,hz,rfl⟩,(hk.own a B h2 hz).2.1,hnS a B h2 hz (VV ha)⟩
  ·obtain⟨h1,h2⟩:=DB hB
   obtain⟨h3,h4⟩:=DB nB;exact Gv X9 X9 (hk.inj _ _ B B' h2 h4 hz uM e)
  ·have:=(DB hB).1
   show l<m0.length;omega
  ·have Ik:l<ρ.length:=by rw[RI];exact(VT.1 hm0).1
   obtain⟨a,ha,ea⟩:=qG Ik;obtain⟨ZhF,h1,h2,h3⟩:=hρ l a ha;rw[hm0]at h1
   simp only[V4]at h1
   subst h1;obtain⟨B,hB,hb⟩:=hk.mem a _ h2;refine⟨B,by simp only[E1,β];rw[if_pos Ik,ea];exact hB,hb.k,by rw[hb.n];simp[mV,rR],hb.T,hb.pos,hb.nc,hb.cm,λi cs hi=>?_,λhz=>?_,λhz=>?_,λT hT hz i cs j es x hi hj iq hcx=>?_⟩
   ·have:=hb.es i (cs.map (rW (sig ρ ν))) (by simp[mV,rR,hi])
    simpa using this
   ·have:=hb.nil hz
    simpa[mV,rR]using this
   ·obtain⟨cells,m1',m2',m3'⟩:=hb.mem hz
    refine⟨cells,m1',m2',λi cs j p hi hj=>?_⟩
    obtain⟨x,x1,x2,x3⟩:=m3' i (cs.map (rW (sig ρ ν))) j (rW (sig ρ ν) p) (by simp[mV,rR,hi]) (by simp[hj])
    have uQ:=h3 cs (VV hi) p (VV hj);refine⟨x,x1,x2,GF (E:=E) (λl B hB=>(DB hB).2) hS1 x3 uQ.1 uQ.2 (λcs e=>?_) (λcs e=>?_)⟩
    ·subst e;obtain⟨_,rfl,_⟩:=dE.qq x3;simp[Value.oneCell']at x2
    ·subst e;obtain⟨_,rfl,_⟩:=dE.xo x3;simp[Value.oneCell']at x2
   ·exact hb.key T hT hz i (cs.map (rW (sig ρ ν))) j es x (by simp[mV,rR,hi]) (by simp[hj,rW,uN]) iq hcx
  ·obtain⟨h1,h2⟩:=DB hB
   obtain⟨a,ha,ea⟩:=qG h1;obtain⟨J2,h3,_⟩:=hρ l a ha;exact⟨J2,h3⟩
  ·obtain⟨l,B,hB,hz,rfl⟩:=hb
   obtain⟨h1,h2⟩:=DB hB;exact(hk.own _ B h2 hz).1
 refine(hc S β w vs E.ω Zf6 hl (hargs β λl B hB=>(DB hB).2)).mono ?_
 rintro e w' ⟨v,E',rfl,hok,hSS,hSn,⟨Zgi,Zcb⟩,tb⟩;have UO:∀{i},E'.used i->i<m1.length:=λ{i} h=>hok.used i h
 -- the Zdq rows behind the call
 let m2:=jz (sig ρ ν) ν (m1.drop ρ.length) (oI (sig ρ ν) ρ m1 m)
 let S2:Nat->Prop:=λb=>if flat then E.S b\/(w.heap.size<=b/\E'.S b)else E'.S b
 let β2:Nat->Option qm:=λl=>if sW m2 l=YJ then(if h:∃i,i<m1.length/\sig ρ ν i=l then E'.β (XB h)else E.β l)else YI
 let E2:Env:={ S:=S2,β:=β2,used:=λl=>E.used l\/∃i,E'.used i/\sig ρ ν i=l,ω:=λb q=>E.ω b q\/E'.ω b q}
 have Za6:∀l∈ρ,l<m.length:=λl hl=>hk.used l (UW l hl)
 have FG:∀{l mb},m2[l]?=YH (YH mb)->(∃i OM,i<m1.length/\sig ρ ν i=l/\m1[i]?=YH (YH OM)/\mb=mV (sig ρ ν) OM)\/(l ∉ ρ/\(¬ ∃i,i<m1.length/\sig ρ ν i=l)/\m[l]?=YH (YH mb)):=by
  intro l mb h
  rcases xg _ _ _ _ _ h with⟨i,OM,rfl,h1,h2⟩ |h'
  ·rw[List.getElem?_drop]at h1
   refine .inl ⟨ρ.length+i,OM,(VT.1 h1).1,?_,h1,h2⟩;rw[zG X9];omega
  ·by_cases hl:l∈ρ
   ·obtain⟨i,hi⟩:=WD hl
    have Dk:i<ρ.length:=(VT.1 hi).1;rw[EH ρ m1 m hn Za6 X9 i l hi]at h'
    rw[VU (show i<m1.length by omega)]at h'
    simp only[WB,V4]at h'
    obtain⟨OM,h1,h2⟩:=Wb.1 h';exact .inl ⟨i,OM,X9,Gw hi,by rw[VU (show i<m1.length by omega),h1],h2.symm⟩
   ·rw[CK ρ m1 m l hl]at h'
    refine .inr ⟨hl,?_,h'⟩;rintro⟨i,hi,rfl⟩;have:=xY hi (l6 hk h');obtain⟨a,ha,ea⟩:=qG this;rw[ea]at hl
    exact hl (VV ha)
 have Cb:∀{i} (hi:i<m1.length) (h:∃j,j<m1.length/\sig ρ ν j=sig ρ ν i),XB h=i:=λ{i} hi h=>Gv (W0 h).1 hi (W0 h).2
 have Iv:∀{l B},β2 l=YH B->sW m2 l=YJ/\((∃i,i<m1.length/\sig ρ ν i=l/\E'.β i=YH B)\/((¬ ∃i,i<m1.length/\sig ρ ν i=l)/\E.β l=YH B)):=by
  intro l B h;simp only[β2]at h
  split at h
  ·rename_i sM
   refine⟨sM,?_⟩
   split at h
   ·rename_i hex
    exact .inl ⟨XB hex,(W0 hex).1,(W0 hex).2,h⟩
   ·rename_i hex
    exact .inr ⟨hex,h⟩
  ·cases h
 have Eh:∀b,b<w.heap.size->¬np β b->w'.heap[b]?=w.heap[b]?:=λb hb hn=>hok.up.block b hb hn
 have wH:∀b,np β b->∃l B,l∈ρ/\E.β l=YH B/\B.z=YK/\B.b=b:=by
  rintro b ⟨l,B,hB,hz,rfl⟩;obtain⟨h1,h2⟩:=DB hB;obtain⟨a,ha,ea⟩:=qG h1;exact⟨a,B,VV ha,by rw[<-ea];exact h2,hz,rfl⟩
 have ZdP:∀b,S2 b->E'.S b:=λb hb=>by
  simp only[S2]at hb
  split at hb
  ·rcases hb with hb|hb
   ·exact hSS b (hS1 b hb)
   ·exact hb.2
  ·exact hb
 have ZdO:∀b,S2 b->E.S b\/w.heap.size<=b\/np β b:=λb hb=>by
  simp only[S2]at hb
  split at hb
  ·exact hb.imp id λh=>.inl h.1
  ·rename_i hf
   rcases hSn b hb with h|h|h
   ·rw[Ib (by simpa using hf)]at h;exact .inl h
   ·exact .inr (.inl h)
   ·exact .inr (.inr h)
 have RB:∀b,np β b->np E.β b:=λb ho=>by
  obtain⟨l,B,_,hB,hz,rfl⟩:=wH b ho;exact⟨l,B,hB,hz,rfl⟩
 have hSE:∀b,E.S b->S2 b:=λb hb=>by
  simp only[S2]
  split
  ·exact .inl hb
  ·exact hSS b (hS1 b hb)
 have hx:Ext w w' E E2:=by
  refine⟨hSE,λb o hb=>cell_of_heap (Eh b (hk.sz b hb) λho=>?_),λl B hl hB=>?_,λl hl=>.inl hl,λb hb=>(ZdO b hb).imp id λh=>h.imp id (RB b),λb ho=>?_,hok.up.size,λb q hq=>⟨.inl hq,Eh b (hk.sz b (hk.ow b q hq).1) λho=>(by obtain⟨l,B,_,hB,hz,rfl⟩:=wH b ho;exact(hk.own l B hB hz).2.2 (hk.ow _ q hq).1)⟩,λb q hq=>(by rcases hq with h|h;exact .inl h;exact(Zcb b q h).imp id λh=>h.imp id (RB b))⟩
  ·obtain⟨l,B,_,hB,hz,rfl⟩:=wH b ho
   exact(hk.own l B hB hz).2.2 hb
  ·rcases(Iv hB).2 with⟨i,hi,rfl,nB⟩ |⟨_,nB⟩
   ·have bU:=xY hi hl
    obtain⟨h1,h2⟩:=DB (Zgi i B X9 nB);exact h2
   ·exact nB
  ·obtain⟨l,B,hB,hz,rfl⟩:=ho
   rcases(Iv hB).2 with⟨i,hi,_,nB⟩ |⟨_,nB⟩
   ·rcases(hok.own i B nB hz).1 with h|h
    ·exact .inl (RB _ h)
    ·exact .inr h
   ·exact .inl ⟨l,B,nB,hz,rfl⟩
 have Zei:∀l B,E'.used l->E2.β (sig ρ ν l)=YH B->E'.β l=YH B:=by
  intro l B hl hB
  rcases(Iv hB).2 with⟨i,hi,he,nB⟩ |⟨wG,_⟩
  ·rw[<-Gv hi (UO hl) he];exact nB
  ·exact absurd ⟨l,UO hl,rfl⟩ wG
 have Za4:∀p x,(flat=YJ->IA p=YJ)->fg w' E'.S p x->fg w' E2.S p x:=by
  intro p x hp h
  cases hf:flat with
  |true=>exact h.flat (hp hf)
  |false=>exact h.all λb hb=>by simp only[E2,S2,hf];exact hb
 have Zd9:∀b q q',E.ω b q->E'.ω b q'->q'=q:=λb q q' h h'=>by
  rcases Zcb b q' h' with h1|h1|h1
  ·exact(hk.ow b q h).2 q' h1
  ·have:=hk.sz b (hk.ow b q h).1;omega
  ·obtain⟨l,B,_,hB,hz,rfl⟩:=wH b h1
   exact absurd (hk.ow _ q h).1 (hk.own l B hB hz).2.2
 have Zeo:∀b q,E'.ω b q->E2.S b:=λb q h=>by
  have h0:=(hok.ow b q h).1;simp only[E2,S2]
  split
  ·rename_i hf
   rcases Zcb b q h with h1|h1|h1
   ·exact .inl (hk.ow b q h1).1
   ·exact .inr ⟨h1,h0⟩
   ·obtain⟨l,B,hl,_⟩:=wH b h1
    have:=Og hf;rw[this]at RI
    rw[Xp.1 RI]at hl
    cases hl
  ·exact h0
 have how:∀b q,E2.ω b q->E2.S b/\∀q',E2.ω b q'->q'=q:=λb q hq=>by
  rcases hq with h|h
  ·refine⟨hSE b (hk.ow b q h).1,λq' UR=>?_⟩
   rcases UR with h'|h'
   ·exact(hk.ow b q h).2 q' h'
   ·exact Zd9 b q q' h h'
  ·refine⟨Zeo b q h,λq' UR=>?_⟩
   rcases UR with h'|h'
   ·exact(Zd9 b q' q h' h).symm
   ·exact(hok.ow b q h).2 q' h'
 refine⟨v,E2,rfl,⟨?_,λb hb=>hok.sz b (ZdP b hb),λl B hB hz=>?_,λl l' B B' hB nB hz uM e=>?_,λl hl=>?_,λl B hB=>?_,λl mb zW=>?_,λl B hB=>tK.1 (Iv hB).1,hk.Nl,how⟩,hx,
  SO (flat:=flat) Zei (λl hl=>.inr ⟨l,hl,rfl⟩) Za4 tb hr,λl hl=>?_⟩
 ·refine hk.up.trans hok.up λb hb ho=>?_
  obtain⟨l,B,_,hB,hz,rfl⟩:=wH b ho
  rcases(hk.own l B hB hz).1 with h|h
  ·exact h
  ·omega
 ·rcases(Iv hB).2 with⟨i,hi,rfl,nB⟩ |⟨wG,nB⟩
  ·obtain⟨h1,h2,h3⟩:=hok.own i B nB hz
   refine⟨?_,h2,λhS=>h3 (ZdP _ hS)⟩
   rcases h1 with h1|h1
   ·obtain⟨l,B1,_,wT,J1,e1⟩:=wH _ h1
    rw[<-e1];exact(hk.own l B1 wT J1).1
   ·exact .inr (by have:=hk.up.size;omega)
  ·obtain⟨h1,h2,h3⟩:=hk.own l B nB hz
   refine⟨h1,by have:=hok.up.size;omega,λhS=>?_⟩
   rcases ZdO _ hS with h|h|h
   ·exact h3 h
   ·omega
   ·obtain⟨l3,B3,TE,hB3,hz3,e3⟩:=wH _ h
    have:=hk.inj l3 l B3 B hB3 nB hz3 hz e3;subst this;obtain⟨j,hj⟩:=WD TE;have Dw:j<ρ.length:=(VT.1 hj).1;exact wG ⟨j,X9,Gw hj⟩
 ·have ZaX:∀{i l2 B1 B2},i<m1.length->E'.β i=YH B1->(¬ ∃j,j<m1.length/\sig ρ ν j=l2)->E.β l2=YH B2->B1.z=YK->B2.z=YK->B1.b=B2.b->False:=by
   intro i l2 B1 B2 hi wT wG hB2 J1 Oq e
   rcases(hok.own i B1 wT J1).1 with h|h
   ·obtain⟨l3,B3,TE,hB3,hz3,e3⟩:=wH _ h
    have:=hk.inj l3 l2 B3 B2 hB3 hB2 hz3 Oq (e3.trans e);subst this;obtain⟨j,hj⟩:=WD TE;have Dw:j<ρ.length:=(VT.1 hj).1;exact wG ⟨j,X9,Gw hj⟩
   ·have:=(hk.own l2 B2 hB2 Oq).2.1
    omega
  rcases(Iv hB).2 with⟨i,hi,rfl,h1⟩ |⟨wG,h1⟩<;>rcases(Iv nB).2 with⟨i',mZ,rfl,h2⟩ |⟨Rw,h2⟩
  ·rw[hok.inj i i' B B' h1 h2 hz uM e]
  ·exact(ZaX hi h1 Rw h2 hz uM e).elim
  ·exact(ZaX mZ h2 wG h1 uM hz e.symm).elim
  ·exact hk.inj l l' B B' h1 h2 hz uM e
 ·obtain⟨g1,g2⟩:=xh (σ:=sig ρ ν) ν (m1.drop ρ.length) (oI (sig ρ ν) ρ m1 m)
  rw[EI]at g1
  show l<(jz (sig ρ ν) ν (m1.drop ρ.length) (oI (sig ρ ν) ρ m1 m)).length
  rcases hl with hl|⟨i,hi,rfl⟩
  ·have:=hk.used l hl;omega
  ·have mZ:=UO hi
   by_cases h:i<ρ.length
   ·obtain⟨a,ha,ea⟩:=qG h
    rw[ea];have:=Za6 a (VV ha);omega
   ·rw[zG h]
    exact g2 _ Yi
 ·rcases(Iv hB).2 with⟨i,hi,rfl,h1⟩ |⟨wG,h1⟩
  ·exact .inr ⟨i,hok.bu i B h1,rfl⟩
  ·exact .inl (hk.bu l B h1)
 ·have sM:sW m2 l=true:=tK.2 ⟨mb,zW⟩
  rcases FG zW with⟨i,OM,hi,rfl,h1,rfl⟩ |⟨hl,wG,h1⟩
  ·obtain⟨B,hB,hb⟩:=hok.mem i OM h1
   have hex:∃j,j<m1.length/\sig ρ ν j=sig ρ ν i:=⟨i,hi,rfl⟩;refine⟨B,?_,hb.renamed (flat:=flat) (Io OM (VV h1)) Zei (λl hl=>.inr ⟨l,hl,rfl⟩) Za4 λb q hq=>⟨.inr hq,Zeo b q hq⟩⟩
   simp only[E2,β2,sM,if_true,hex,dif_pos];rw[Cb hi];exact hB
  ·obtain⟨B,hB,hb⟩:=hk.mem l mb h1
   refine⟨B,by simp only[E2,β2,sM,if_true];rw[dif_neg wG];exact hB,hb.ext hx λhz=>Eh _ (hk.own l B hB hz).2.1 λho=>?_⟩
   obtain⟨l3,B3,TE,hB3,hz3,e3⟩:=wH _ ho;exact hl (hk.inj l3 l B3 B hB3 hB hz3 hz e3▸TE)
 ·rcases hl with hl|⟨i,hi,rfl⟩
  ·exact .inl hl
  ·have mZ:=UO hi
   by_cases h:i<ρ.length
   ·obtain⟨a,ha,ea⟩:=qG h
    rw[ea];exact .inl (UW a (VV ha))
   ·rw[zG h]
    exact .inr ⟨X9,X9⟩
def Ow:PV->Bool
 |.ag cs=>cs.all r9
 |.tu _=>YK
 |p=>r9 p
def pE(P:Program)(io:Bool)(wd ν:Nat)(f:FuncId)(ps:List PV)(m:Mem)(K:PV->Mem->Prop):Prop:=
 (∃r m1,yB m ps (λqs=>fL P f qs [] r m1)/\m1.length<=wd/\(∀mb,YH mb∈m1->∀cs∈mb.es,∀p∈cs,eC YJ p\/mb.T.kd.isSome=YJ/\vh p=YJ)/\qK YJ r/\K (yx (sig [] ν) r) (jz (sig [] ν) ν m1 m))\/
 ∃(ρ:List Nat) (m0:Mem) (qs:List PV) (r:PV) (m1:Mem),(io=YJ\/ρ=[])/\fL P f qs m0 r m1/\m0.length<=m1.length/\m1.length-m0.length<=wd/\ps=qs.map (yw (sig ρ ν))/\(∀q∈qs,sT YK q/\FT m0.length q=YJ)/\ρ.Nodup/\o8 (sig ρ ν) m m0.length ρ m0/\
  (∀mb,YH mb∈m1->∀cs∈mb.es,∀p∈cs,eC YK p)/\qK YK r/\K (yx (sig ρ ν) r) (jz (sig ρ ν) ν (m1.drop ρ.length) (oI (sig ρ ν) ρ m1 m))
theorem I1(hk:Ok w0 O E w m){io:Bool}{wd ν:Nat}(vT:∀i,i<wd->¬E.used (ν+i)){f:FuncId}{ps:List PV}{vs:Array Value}(hl:vs.size=ps.length)(hr:∀(j:Nat) (p:PV) (x:Value),ps[j]?=YH p->vs[j]?=YH x->dE w E p x){K:PV->Mem->Prop}(h:pE P io wd ν f ps m K):
 ∃r m',K r m'/\Calls P f vs w λe w'=>∃v E',e=.returned v/\Ok w0 O E' w' m'/\Ext w w' E E'/\dE w' E' r v/\∀l,E'.used l->E.used l\/(ν<=l/\l<ν+wd):=by
 rcases h with⟨r,m1,hs,Iu,Io,KC,hK⟩ |⟨ρ,m0,qs,r,m1,_,hc,hle,Iu,KG,hqs,hn,u9,Io,KC,hK⟩
 ·refine⟨_,_,hK,?_⟩
  obtain⟨ds,hc,hdl,hd⟩:=EP hk ps vs.toList _ X9 (λj p x hp hx=>hr j p x hp Yd) hs
  have wu:∀b,Qc E b->b<w.heap.size:=by
   rintro b (h|⟨l,B,hB,hz,rfl⟩)
   ·exact hk.sz b h
   ·exact(hk.own l B hB hz).2.1
  refine(Hg (ρ:=[]) (flat:=YJ) hk hc (λi hi=>vT i X9) (Wu _) X9 (λβ _ i p hp=>?_) List.nodup_nil trivial (λb hb=>.inl hb) (λh=>by cases h) (λ_=>rfl) wu Io KC).mono ?_
  ·have hi:i<vs.size:=by grind
   exact⟨vs[i],V8 hi,hd i p _ hp Ye _ _ _⟩
  ·rintro e w' ⟨v,E2,he,h1,h2,h3,h4⟩
   exact⟨v,E2,he,h1,h2,h3,λl hl=>(h4 l hl).imp id λh=>⟨h.1,X9⟩⟩
 ·refine⟨_,_,hK,?_⟩
  have hql:vs.size=qs.length:=by grind
  refine(Hg (ρ:=ρ) (flat:=YK) (S:=E.S) hk hc (λi hi=>vT i X9) hle hql (λβ xr i p hp=>?_) hn u9 (λb hb=>hb) (λ_=>rfl) (λh=>by cases h) hk.sz (λmb h cs hc p hp=>.inl (Io mb h cs hc p hp)) KC).mono ?_
  ·have hi:i<vs.size:=by grind
   have hg:=hqs p (VV hp);exact⟨vs[i],V8 hi,ZaL xr (λb hb=>hb) (hr i (yw (sig ρ ν) p) _ Yd (V8 hi)) hg.1 hg.2⟩
  grind
end
end Go.Proofs.YtdilaemengjipaaGreatDoor
namespace Go.Proofs.YtdilaemengjipaaGreatDoor
set_option maxRecDepth 10000
open Go.RowKit
variable {T:TypeId}{a:Act}{b io:Bool}{d:Option Tmp}{f:FuncId}{j l s:Nat}{p:PV}{ps:List PV}{q:Nat×Option MB}{tm:Array Value}{x:Operand}
def tG (P : Program) (f : FuncId) : Prop := ∃ fn, P.funcs[f]? = YH fn /\ fn.body.isSome = YJ /\ (fn.name == "runtime.NumGoroutine") = YK
def iT(P:Program)(io:Bool)(wd ν:Nat)(o:Op)(t:List PV)(m:Mem)(K:PV->Mem->Prop):Prop:=
 match o with
 |.alloc T=>zx ν m T (pz P T) K
 |.box T x=>zx ν m T (pc (gh t x)) K
 |.buildSlice T n ps=>mU P ν m T n (ps.toList.map λq=>(q.1,gh t q.2)) K
 |.makeSlice T l c=>vt P ν m T (gh t l) (gh t c) K
 |.store T a x=>vu P m T (gh t a) (gh t x) K
 |.call c=>match c.callee with
  |.builtin .append=>match c.args.toList,c.argTypes.toList with
   | [s,x],[T,T']=>T=T'/\gf P ν m T (gh t s) (gh t x) K
   |_,_=>False
  |.value (.func f)=>tG P f/\pE P io wd ν f (c.args.toList.map (gh t)) m K
  |.value (.tmp i)=>match t.getD i .un with
   |.fn f cs=>(∀c∈cs,Ck c=YJ)/\tG P f/\pE P io wd ν f (c.args.toList.map (gh t)++cs) m K
   |_=>False
  |_=>pZ P o t m λp=>K p m
 |_=>pZ P o t m λp=>K p m
def gate(c:Bool)(y n:Prop):Prop:=(c=YJ->y)/\(c=YK->n)
def iZ(t:List PV)(d:Option Tmp)(p:PV):List PV:=
 match d with
 |some d=>t.set d p
 |none=>t
def sP(P:Program)(ops:Array Oper)(K:List PV->Mem->Prop):List Oper->List PV->Mem->Prop
 | [],t,m=>K t m
 |o::rest,t,m=>match o.guard with
  |none=>iT P YJ 16 m.length o.op t m λp m'=>sP P ops K rest (iZ t o.dst p) m'
  |some (j,b)=>match(ops[j]?).bind (·.dst)with
   |none=>sP P ops K rest (iZ t o.dst .ud) m
   |some d=>match t.getD d .un,b with
    |.v (.bool c),YJ=>gate c (iT P YJ 16 m.length o.op (t.set d (.v (.bool YJ))) m λp m'=>sP P ops K rest (iZ (t.set d (.v (.bool YJ))) o.dst p) m') (sP P ops K rest (iZ (t.set d (.v (.bool YK))) o.dst .ud) m)
    |.v (.bool c),YK=>gate c (sP P ops K rest (iZ (t.set d (.v (.bool YJ))) o.dst .ud) m) (iT P YJ 16 m.length o.op (t.set d (.v (.bool YK))) m λp m'=>sP P ops K rest (iZ (t.set d (.v (.bool YK))) o.dst p) m')
    |.ud,_=>sP P ops K rest (iZ t o.dst .ud) m
    |_,_=>False
section
variable {w:World} {O:Nat->Prop} {E:Env} {w0:World} {m:Mem} {P:Program}
def GS(P:Program)(w0:World)(O:Nat->Prop)(E:Env)(w:World)(wd ν:Nat)(a:Act)(o:Oper)(p:PV)(m':Mem):Prop:=
 ∀(K:Act->World->Prop) (Q:Exit->Act->World->Prop),(∀x w' E',Ok w0 O E' w' m'->Ext w w' E E'->dE w' E' p x->(∀l,E'.used l->E.used l\/(ν<=l/\l<ν+wd))->K (a.put o.dst x) w')->o.wp P a w K Q
theorem xR{wd ν:Nat}(Iu:0<wd){o:Oper}{s:Sem Value}{m':Mem}(he:execOp a.eval o=do pure (Next.value (<-s)))(h:uS P w0 O E w ν s p m'):GS P w0 O E w wd ν a o p m':=by
 obtain⟨x,w',E',kh,h1,h2,h3,h4⟩:=h;intro K Q hK;unfold Oper.wp;rw[he,Zbd kh];exact hK x w' E' h1 h2 h3 λl hl=>(h4 l hl).imp id λh=>X9
theorem UB{wd ν:Nat}(hk:Ok w0 O E w m){o:Oper}(h:J5 P E w a o p):GS P w0 O E w wd ν a o p m:=by
 obtain⟨x,kh,h3⟩:=h;intro K Q hK;unfold Oper.wp;rw[kh];exact hK x w E hk (Ext.refl w E) h3 λl hl=>.inl hl
theorem B5 {wd ν : Nat} (hk : Ok w0 O E w m) (vT : ∀ i, i < wd -> ¬ E.used (ν + i)) {t : List PV} {o : Oper} {vs : Array Value} (hf : tG P f) (kh : ∀ fn, P.funcs[f]? = YH fn -> fn.body.isSome = YJ -> (fn.name == "runtime.NumGoroutine") = YK -> (execOp a.eval o).run P w = .ok (.enter f vs) w)
 (hl:vs.size=ps.length) (hr:∀(j:Nat) (p:PV) (x:Value),ps[j]?=YH p->vs[j]?=YH x->dE w E p x) {K:PV->Mem->Prop} (h:pE P io wd ν f ps m K):∃p m',K p m'/\GS P w0 O E w wd ν a o p m':=by
 obtain⟨fn,hf,Rg,Rv⟩:=hf;obtain⟨p,m',hK,ZdR⟩:=I1 (P:=P) hk vT hl hr h;refine⟨p,m',hK,λK Q hKK=>?_⟩
 unfold Oper.wp;rw[kh fn hf Rg Rv,Oper.upon_enter];refine ZdR.mono ?_
 grind
theorem Qq{t:List PV}(ev:∀o:Operand,dE w E (gh t o) (a.eval o))(args:Array Operand)(j:Nat)(p:PV)(x:Value)(hp:(args.toList.map (gh t))[j]?=YH p)(hx:(args.map a.eval)[j]?=YH x):dE w E p x:=by
 grind
theorem CH(hk:Ok w0 O E w m){wd ν:Nat}(Iu:0<wd)(vT:∀i,i<wd->¬E.used (ν+i)){t:List PV}(ht:rG w E t a.tmps){o:Oper}{K:PV->Mem->Prop}(h:iT P io wd ν o.op t m K):∃p m',K p m'/\GS P w0 O E w wd ν a o p m':=by
 have ev:=xP ht;have RH:¬E.used ν:=vT 0 Iu;have red:pZ P o.op t m (λp=>K p m)->∃p m',K p m'/\GS P w0 O E w wd ν a o p m':=λh=>by
  obtain⟨p,hK,hg⟩:=Ly hk ht h;exact⟨p,m,hK,UB hk hg⟩
 unfold iT at h
 split at h
 ·rename_i T ho
  obtain⟨p,m',hK,hg⟩:=F6 (P:=P) hk RH h;exact⟨p,m',hK,xR Iu Yk hg⟩
 ·rename_i T x ho
  obtain⟨p,m',hK,hg⟩:=K8 (P:=P) hk RH (ev x) h;exact⟨p,m',hK,xR Iu Yk hg⟩
 ·rename_i T n ps ho
  obtain⟨p,m',hK,hg⟩:=yq (P:=P) hk RH (vs:=ps.map fun(i,x)=>(i,a.eval x)) Ye (λj i p hj=>by
   grind) h
  exact⟨p,m',hK,xR Iu Yk hg⟩
 ·rename_i T l c ho
  obtain⟨p,m',hK,hg⟩:=I4 (P:=P) hk RH (ev l) (ev c) h;exact⟨p,m',hK,xR Iu Yk hg⟩
 ·rename_i T x y ho
  obtain⟨m',hK,w',kh,h1,h2⟩:=Gf (P:=P) hk (ev x) (ev y) h;refine⟨_,m',hK,λK Q hKK=>?_⟩
  unfold Oper.wp;simp only[execOp,ho,Sem.run_bind,kh,Result.andThen_ok,Sem.run_pure];exact hKK YO w' E h1 h2 (.c .ud) λl hl=>.inl hl
 ·rename_i c ho
  split at h
  ·rename_i hc
   split at h
   ·rename_i s x T T' hx hT
    obtain⟨rfl,h⟩:=h;obtain⟨callee,args,argTypes⟩:=c;have ha:=vL hx;have hTs:=vL hT;simp only at hc ha hTs
    subst hc ha hTs;obtain⟨p,m',hK,hg⟩:=DE (P:=P) (ty:=o.type) hk RH (ev s) (ev x) h;refine⟨p,m',hK,xR Iu ?_ hg⟩;simp[execOp,ho,resolve,invoke,builtin]
   simp_all
  ·rename_i f hc
   obtain⟨hf,h⟩:=h;obtain⟨callee,args,argTypes⟩:=c;simp only at hc h
   subst hc;refine B5 hk vT (t:=t) (vs:=args.map a.eval) hf (λfn hf Rg Rv=>?_) Ye (Qq ev args) h
   have KE : (fn.name = "runtime.NumGoroutine") = False := by simp_all
   have ZbY:(fn.body=YI)=False:=by
    grind
   simp[execOp,ho,resolve,invoke,Act.eval,callFunc,Deferred.ofValue,hf,KE,ZbY]
  ·rename_i i hc
   split at h
   ·rename_i f cs hti
    obtain⟨_,hf,h⟩:=h;obtain⟨callee,args,argTypes⟩:=c;simp only at hc h
    subst hc;have hv:=ev (.tmp i);simp only[gh,hti]at hv
    obtain⟨us,hus,hul,hur⟩:=hv.FA;refine B5 hk vT (t:=t) (vs:=args.map a.eval++us) hf (λfn hf Rg Rv=>?_) Yd (λj p x hp hx=>?_) h
    ·have KE : (fn.name = "runtime.NumGoroutine") = False := by simp_all
     have ZbY:(fn.body=YI)=False:=by
      grind
     simp[execOp,ho,resolve,invoke,hus,callFunc,Deferred.ofValue,hf,KE,ZbY]
    grind
   simp_all
  simp_all
 simp_all
theorem rG.ext{w':World}{E':Env}{t:List PV}{tm:Array Value}(h:rG w E t tm)(hx:Ext w w' E E'):rG w' E' t tm:=⟨h.1,λi p hp=>(h.2 i p hp).ext hx⟩
theorem rG.put{t:List PV}{a:Act}(h:rG w E t a.tmps){p:PV}{x:Value}(hp:dE w E p x)(d:Option Tmp):rG w E (iZ t d p) (a.put d x).tmps:=by
 cases d with
 |none=>exact h
 |some d=>
  refine⟨by simp[Act.put,iZ,h.1],λi q hq=>?_⟩
  simp only[iZ]at hq
  simp only[Act.put]
  by_cases e:d=i
  ·subst e
   have hd:d<t.length:=by grind
   rw[WL hd]at hq
   cases hq
   have:(a.tmps.setIfInBounds d x).getD d YO=x:=by simp[Xr,h.1,hd]
   grind
  ·rw[Wx e]at hq
   have:(a.tmps.setIfInBounds d x).getD i YO=a.tmps.getD i YO:=by
    simp_all
   rw[this];exact h.2 i q hq
theorem rG.bool{t:List PV}{tm:Array Value}(h:rG w E t tm){d:Nat}{c:Bool}(hc:t.getD d .un=.v (.bool c)):rG w E (t.set d (.v (.bool c))) tm:=by
 refine⟨by simp[h.1],λi q hq=>?_⟩
 by_cases e:d=i
 ·subst e
  have hd:d<t.length:=by grind
  rw[WL hd]at hq
  cases hq
  refine h.2 d _ ?_
  simp_all
 ·rw[Wx e]at hq
  exact h.2 i q hq
theorem B7{o:Oper}(h:o.guard=YI)(y:Nat->Option Bool):Region.wanted o y=true:=by simp[Region.wanted,h]
theorem H8{ops:Array Oper}{o:Oper}(h:o.guard=YH (j,b))(hd:(ops[j]?).bind (·.dst)=YI)(tm:Array Value):Region.wanted o (yielded ops tm)=false:=by
 simp[Region.wanted,h,yielded,hd]
theorem uo{ops:Array Oper}{o:Oper}{j d:Nat}{b c:Bool}(h:o.guard=YH (j,b))(hd:(ops[j]?).bind (·.dst)=YH d){t:List PV}(ht:rG w E t tm)(hc:t.getD d .un=.v (.bool c)):Region.wanted o (yielded ops tm)=(c==b):=by
 have bU:d<t.length:=by
  grind
 have tb:=ht.2 d _ (VU bU);have hda:d<tm.size:=by rw[ht.1];omega
 have e1:tm.getD d YO=tm[d]:=by simp_all
 have e2:t.getD d .un=t[d]:=by simp_all
 rw[e1,<-e2,hc]at tb
 have:=tb.gW.1;simp only[Region.wanted,h,yielded,hd,VS,V8 hda,this];rfl
theorem H9{ops:Array Oper}{o:Oper}{j d:Nat}(h:o.guard=YH (j,b))(hd:(ops[j]?).bind (·.dst)=YH d){t:List PV}(ht:rG w E t tm)(hc:t.getD d .un=.ud):Region.wanted o (yielded ops tm)=false:=by
 have bU:d<t.length:=by
  grind
 have tb:=ht.2 d _ (VU bU);have hda:d<tm.size:=by rw[ht.1];omega
 have e1:tm.getD d YO=tm[d]:=by simp_all
 have e2:t.getD d .un=t[d]:=by simp_all
 rw[e1,<-e2,hc]at tb
 have hu:tm[d]=YO:=by
  generalize tm[d]=z at tb
  cases tb with
  |c h=>cases h;rfl
 simp only[Region.wanted,h,yielded,hd,VS,V8 hda,hu];rfl
theorem xe{ops:Array Oper}{K:List PV->Mem->Prop}{Q:Exit->Act->World->Prop}:∀(l:List Oper) (t:List PV) (m:Mem) (E:Env) (w:World) (a:Act),Ok w0 O E w m->a.defers=[]->rG w E t a.tmps->sP P ops K l t m->
 (∀t m E' w' (a':Act),K t m->Ok w0 O E' w' m->Ext w w' E E'->a'.defers=[]->rG w' E' t a'.tmps->Q .normal a' w')->wpList P ops Q l a w
 | [],t,m,E,w,a,hk,hd,ht,h,hQ=>hQ t m E w a h hk (Ext.refl w E) hd ht
 |o::l,t,m,E,w,a,hk,hd,ht,h,hQ=>by
  have hdd:∀x,(a.put o.dst x).defers=[]:=λx=>by cases o.dst<;>exact hd
  have run:∀t',rG w E t' a.tmps->Region.wanted o (yielded ops a.tmps)=YJ->iT P YJ 16 m.length o.op t' m (λp m'=>sP P ops K l (iZ t' o.dst p) m')->wpList P ops Q (o::l) a w:=by
   intro t' Ei hw h;obtain⟨p,m',hK,hg⟩:=CH hk X9 (λi _ hu=>by have:=hk.used _ hu;omega) Ei h
   unfold wpList;rw[if_pos hw];exact .inl (hg _ _ λx w' E' h1 h2 h3 _=>xe l _ m' E' w' _ h1 (hdd x) ((Ei.ext h2).put h3 o.dst) hK λt m E2 w2 a2 k1 k2 k3=>hQ t m E2 w2 a2 k1 k2 (h2.trans k3))
  have pass:∀t',rG w E t' a.tmps->Region.wanted o (yielded ops a.tmps)=YK->sP P ops K l (iZ t' o.dst .ud) m->wpList P ops Q (o::l) a w:=by
   intro t' Ei hw h;unfold wpList;rw[hw,if_neg Ye];exact xe l _ m E w _ hk (hdd _) (Ei.put (.c .ud) o.dst) h hQ
  simp only[sP]at h
  split at h
  ·rename_i hg;exact run t ht (B7 hg _) h
  ·rename_i j b hg
   split at h
   ·rename_i Dv;exact pass t ht (H8 hg Dv _) h
   ·rename_i d Dv
    split at h
    ·rename_i c hc
     have hb:=uo hg Dv ht hc
     cases c with
     |true=>exact run _ (ht.bool hc) hb (h.1 rfl)
     |false=>exact pass _ (ht.bool hc) hb (h.2 rfl)
    ·rename_i c hc
     have hb:=uo hg Dv ht hc
     cases c with
     |true=>exact pass _ (ht.bool hc) hb (h.1 rfl)
     |false=>exact run _ (ht.bool hc) hb (h.2 rfl)
    ·rename_i hc;exact pass t ht (H9 hg Dv ht hc) h
    simp_all
end
def o5:PV->List Nat
 |.ms l=>[l]
 |.ss l _ _=>[l]
 |.be l _ _=>[l]
 |_=>[]
def nM:PV->List Nat
 |.fn _ cs=>cs.flatMap o5
 |p=>o5 p
def pF:PV->List Nat
 |.ag cs=>cs.flatMap nM
 |p=>nM p
def iW:PV->List Nat
 |.tu vs=>vs.flatMap pF
 |p=>pF p
def opM:Op->Bool
 |.move _|.assign _|.extract ..=>YK
 |_=>YJ
def opR(o:Op)(t:List PV):List Nat:=match opM o with
 |true=>o.operands.toList.flatMap λx=>iW (gh t x)
 |false=>[]
def PZ(o:Op)(t:List PV)(wd ν:Nat):List Nat:=
 match o with
 |.alloc _=>[ν]
 |.box _ _=>[ν]
 |.buildSlice _ _ _=>[ν]
 |.makeSlice _ _ _=>[ν]
 |.store _ a _=>iW (gh t a)
 |.call c=>match c.callee with
  |.builtin .append=>ν::(c.args.toList.take 1).flatMap λx=>iW (gh t x)
  |.builtin _=>[]
  |_=>Xy ν wd
 |_=>[]
abbrev Tx:=List (Nat×Option MB)
def qQ(m:Mem)(q:Nat×Option MB):Mem:=(m++V7 (q.1+1-m.length) YI).set q.1 q.2
def app(u:Tx)(m:Mem):Mem:=u.foldl qQ m
theorem uc{m:Mem}(h:l<m.length)(x:Option MB):app [(l,x)] m=m.set l x:=by
 simp only[app,Wn,Wi,qQ];rw[show l+1-m.length=0 by omega];simp
def look(m:Mem)(l:Nat):Option MB:=(m[l]?).join
theorem jb{m:Mem}{mb:MB}:look m l=YH mb↔m[l]?=YH (YH mb):=by
 unfold look
 grind
theorem mz{m:Mem}(K:MB->Prop):live m l K=match look m l with
 |some mb=>K mb
 |none=>False:=by
 unfold look live
 grind
structure Same(o:Op)(t:List PV)(m:Mem)(t2:List PV)(m2:Mem):Prop where
 te:∀x∈o.operands.toList,gh t2 x=gh t x
 me:∀l∈opR o t,look m2 l=look m l
section
variable {P:Program} {m m2:Mem} {t t2:List PV} {o:Op}
theorem Same.refs(h:Same o t m t2 m2)(hm:opM o=YJ)(hx:x∈o.operands.toList)(hl:l∈iW (gh t x)):look m2 l=look m l:=h.me l (by unfold opR;grind)
theorem kj(h:look m2 l=look m l)(K:MB->Prop):live m2 l K=live m l K:=by rw[mz,mz,h]
theorem Pp(h:∀l∈iW p,look m2 l=look m l):J3 m2 p=J3 m p:=by
 cases p with
 |be l i o=>
  have e:=h l Yn;have key:∀m:Mem,J3 m (.be l i o)=(look m l).bind λmb=>(mb.es[i]?).map (·.drop o):=by
   intro m;unfold look J3
   cases h:m[l]? with
   |none=>grind
   |some x=>cases x<;>simp[h]
  simp_all
 |_=>rfl
theorem Ld(h:∀l∈iW p,look m2 l=look m l):DF m2 p=DF m p:=by
 funext K
 cases p with
 |be l i o=>simp only[DF,kj (h l Yn)]
 |_=>rfl
theorem F9{S D:TypeId}(h:∀l∈iW p,look m2 l=look m l):rI P m2 S D p=rI P m S D p:=by
 funext K
 cases p with
 |ms l=>simp only[rI,kj (h l Yn)]
 |_=>rfl
theorem Gd{lo hi:Option PV}(h:∀l∈iW p,look m2 l=look m l):kK P m2 T p lo hi=kK P m T p lo hi:=by
 funext K
 cases p with
 |ms l=>
  have e:=kj (m:=m) (m2:=m2) (h l Yn)
  cases hu:P.underlying T with
  |none=>simp only[kK,hu]
  |some d=>cases d<;>simp only[kK,hu,e]
 |ss l a b=>
  have e:=kj (m:=m) (m2:=m2) (h l Yn)
  cases hu:P.underlying T with
  |none=>simp only[kK,hu]
  |some d=>cases d<;>simp only[kK,hu,e]
 |v x=>
  unfold kK
  grind
 |_=>
  unfold kK
  cases hu:P.underlying T with
  |none=>rfl
  |some d=>cases d<;>rfl
theorem zy{f:Nat}(h:∀l∈iW p,look m2 l=look m l):kJ P m2 T p f=kJ P m T p f:=by
 funext K
 cases p with
 |be l i o=>
  have e:=kj (m:=m) (m2:=m2) (h l Yn);simp only[kJ,e]
 |_=>rfl
theorem zA{p q:PV}(h:∀l∈iW p,look m2 l=look m l):cL P m2 T p q=cL P m T p q:=by
 funext K
 cases p with
 |ms l=>
  have e:=kj (m:=m) (m2:=m2) (h l Yn);simp only[cL,e]
 |ss l a b=>
  have e:=kj (m:=m) (m2:=m2) (h l Yn);simp only[cL,e]
 |_=>rfl
theorem La(h:∀l∈iW p,look m2 l=look m l):wB P m2 T p=wB P m T p:=by
 funext K
 cases p with
 |ms l=>
  have e:=kj (m:=m) (m2:=m2) (h l Yn)
  cases hu:P.underlying T with
  |none=>simp only[wB,hu]
  |some d=>cases d<;>simp only[wB,hu,e]
 |ss l a b=>
  have e:=kj (m:=m) (m2:=m2) (h l Yn)
  cases hu:P.underlying T with
  |none=>simp only[wB,hu]
  |some d=>cases d<;>simp only[wB,hu,e]
 |v x=>
  unfold wB
  grind
 |_=>
  unfold wB
  cases hu:P.underlying T with
  |none=>rfl
  |some d=>cases d<;>rfl
theorem JD(h:∀l∈iW p,look m2 l=look m l):pH m2 p=pH m p:=by
 cases p with
 |ms l=>
  have e:=h l Yn;have key:∀m:Mem,pH m (.ms l)=(look m l).map (·.es):=by
   intro m;unfold look pH
   cases h:m[l]? with
   |none=>grind
   |some x=>cases x<;>simp[h]
  simp_all
 |ss l a b=>
  have e:=h l Yn;have key:∀m:Mem,pH m (.ss l a b)=(look m l).map λmb=>(mb.es.drop a).take (b-a):=by
   intro m;unfold look pH
   cases h:m[l]? with
   |none=>grind
   |some x=>cases x<;>simp[h]
  simp_all
 |v x=>cases x<;>first|rfl|(rename_i A n c;cases A<;>first|rfl|(cases n<;>rfl))
 |_=>rfl
theorem vC(h:∀l∈nM p,look m2 l=look m l):yC m2 p=yC m p:=by
 funext K
 cases p with
 |ms l=>simp only[yC];rw[kj (h l (by simp[nM,o5]))]
 |ss l a b=>simp only[yC];rw[kj (h l (by simp[nM,o5]))]
 |_=>rfl
theorem Am:∀{cs:List PV},(∀l∈cs.flatMap nM,look m2 l=look m l)->CY m2 cs=CY m cs
 | [],_=>by rfl
 |c::cs,h=>by
  funext K
  simp only[CY];rw[vC λl hl=>h l Yd,Am λl hl=>h l (by
   simp_all)]
theorem JA(h:∀l∈iW p,look m2 l=look m l):CZ m2 p=CZ m p:=by
 funext K
 cases p with
 |ag cs=>simp only[CZ];rw[Am λl hl=>h l hl]
 |tu vs=>rfl
 |v x=>rfl
 |ud=>rfl
 |un=>rfl
 |sl es=>rfl
 |rp cs=>rfl
 |ms l=>exact congrFun (vC (p:=.ms l) λl hl=>h l hl) K
 |ss l a b=>exact congrFun (vC (p:=.ss l a b) λl hl=>h l hl) K
 |be l i o=>rfl
 |fn f cs=>rfl
theorem Al:∀{cs:List PV},(∀l∈cs.flatMap iW,look m2 l=look m l)->yB m2 cs=yB m cs
 | [],_=>by rfl
 |c::cs,h=>by
  funext K
  simp only[yB];rw[JA λl hl=>h l Yd,Al λl hl=>h l (by
   simp_all)]
theorem map_congr{xs:List Operand}(h:∀x∈xs,gh t2 x=gh t x):xs.map (gh t2)=xs.map (gh t):=Wy h
theorem Lx(h:Same o t m t2 m2):pZ P o t2 m2=pZ P o t m:=by
 have hr:=fun(hm:opM o=YJ) {x:Operand} (hx:x∈o.operands.toList)=>(λl (hl:l∈iW (gh t x))=>h.refs hm hx hl)
 have ht:=λ{x:Operand} (hx:x∈o.operands.toList)=>h.te x hx
 funext K
 cases o with
 |move x=>simp only[pZ];rw[ht Yf]
 |assign x=>simp only[pZ];rw[ht Yf]
 |pick c a b=>simp only[pZ];rw[ht (x:=c) Yf,ht (x:=a) Yf,ht (x:=b) Yf]
 |load T x=>simp only[pZ];rw[ht (x:=x) Yf,Pp (hr rfl (x:=x) Yf)]
 |nilCheck x=>simp only[pZ];rw[ht (x:=x) Yf,Ld (hr rfl (x:=x) Yf)]
 |binOp op T x y Ty=>simp only[pZ];rw[ht (x:=x) Yf,ht (x:=y) Yf]
 |unOp op T x=>simp only[pZ];rw[ht (x:=x) Yf]
 |convert S D x=>simp only[pZ];rw[ht (x:=x) Yf,F9 (hr rfl (x:=x) Yf)]
 |makeFunc fn first cs=>
  simp only[pZ];rw[map_congr λx hx=>ht (x:=x) (by simp only[Op.operands,XA,Wl];simp_all)]
 |slice T x lo hi mx=>
  cases mx with
  |some _=>rfl
  |none=>
   simp only[pZ];rw[ht (x:=x) Yf,Gd (hr rfl (x:=x) Yf)];have e1:lo.map (gh t2)=lo.map (gh t):=by
    cases lo with
    |none=>rfl
    |some z=>simp only[WB];rw[ht (x:=z) Yf]
   have e2:hi.map (gh t2)=hi.map (gh t):=by
    cases hi with
    |none=>rfl
    |some z=>simp only[WB];rw[ht (x:=z) Yf]
   simp_all
 |fieldAddr S x f=>simp only[pZ];rw[ht (x:=x) Yf,zy (hr rfl (x:=x) Yf)]
 |field T x f=>simp only[pZ];rw[ht (x:=x) Yf]
 |indexAddr T x i=>simp only[pZ];rw[ht (x:=x) Yf,ht (x:=i) Yf,zA (hr rfl (x:=x) Yf)]
 |index T x i=>simp only[pZ];rw[ht (x:=x) Yf,ht (x:=i) Yf]
 |extract x i=>simp only[pZ];rw[ht (x:=x) Yf]
 |build T ps=>
  simp only[pZ];have:(ps.toList.map λq=>(q.1,gh t2 q.2))=ps.toList.map λq=>(q.1,gh t q.2):=Wy λq hq=>by
   rw[ht (x:=q.2) (by simp only[Op.operands];grind)]
  grind
 |call c=>
  have ha:∀x∈c.args.toList,x∈(Op.call c).operands.toList:=λx hx=>by
   simp only[Op.operands,Call.operands,XA,Wl];simp_all
  simp only[pZ];have e:=map_congr (xs:=c.args.toList) λx hx=>ht (ha x hx)
  split
  ·split
   ·rename_i x T hx hT
    have uJ:x∈c.args.toList:=by simp_all
    rw[ht (ha x uJ),La (hr rfl (ha x uJ))]
   rfl
  all_goals grind
 |_=>rfl
theorem SB{K:PV->Prop}(h:pZ P o t m K):∃p,K p/\pZ P o t m λp'=>p'=p:=by
 have L:∀{T:TypeId} {cs:Option (List PV)} {K:PV->Prop},rQ P T cs K->∃p,K p/\rQ P T cs λp'=>p'=p:=by
  intro T cs K h;unfold rQ at *
  split at h
  all_goals grind
 have Lv:∀{l:Nat} {A:MB->Prop},live m l A->∃mb,m[l]?=YH (YH mb)/\A mb:=λh=>iv h
 have Lw:∀{l:Nat} {A:MB->Prop} {mb:MB},m[l]?=YH (YH mb)->A mb->live m l A:=by
  intro l A mb h1 h2;unfold live
  simp_all
 unfold pZ at *
 split at h<;>(try exact h.elim)
 ·simp_all
 ·simp_all
 ·grind
 ·grind
 ·unfold DF at *
  grind
 ·unfold I0 at *
  split at h
  ·rename_i h1 h2
   unfold F2 at *
   grind
  ·rename_i h1 h2
   unfold uP at *
   grind
  simp_all
 ·unfold pUn at *
  grind
 ·unfold rI at *
  split at h
  ·rename_i h1
   split at h
   all_goals grind
  ·rename_i h0
   have key:∀{S D:TypeId} {x:PV} {K:PV->Prop},Cy P S D x K->∃p,K p/\Cy P S D x λp'=>p'=p:=by
    intro S D x K h;unfold Cy at *
    grind
   simp_all
 ·grind
 ·split at h
  ·unfold kK at *
   split at h
   all_goals grind
  simp_all
 ·unfold kJ at *
  split at h
  ·rename_i h1
   split at h
   all_goals grind
  simp_all
 ·unfold vp at *
  grind
 ·unfold cL at *
  split at h
  all_goals grind
 ·unfold sF at *
  grind
 ·unfold I3 at *
  grind
 ·unfold vo at *
  split at h
  all_goals grind
 ·split at h
  ·rename_i hc
   split at h
   ·rename_i h1 h2
    unfold wB at *
    grind
   simp_all
  ·rename_i hc
   unfold qE at *
   grind
  ·rename_i hc
   unfold qE at *
   grind
  simp_all
end
section
variable {P:Program} {m m2:Mem} {t t2:List PV} {o:Op}
def uD(σ:Nat->Nat):Nat->Mem->Tx
 |_,[]=>[]
 |ν,x::m1=>(ν,x.map (mV σ))::uD σ (ν+1) m1
theorem qa(σ:Nat->Nat):∀(ν:Nat) (m1 m:Mem),jz σ ν m1 m=app (uD σ ν m1) m
 |ν,[],m=>by rfl
 |ν,YH mb::m1,m=>by unfold jz;rw[qa σ (ν+1) m1];rfl
 |ν,YI::m1,m=>by unfold jz;rw[qa σ (ν+1) m1];rfl
theorem uE(σ:Nat->Nat):∀(ν:Nat) (m1:Mem) (q:Nat×Option MB),q∈uD σ ν m1->ν<=q.1/\q.1<ν+m1.length
 |ν,[],q,h=>by simp[uD]at h
 |ν,x::m1,q,h=>by
  simp only[uD,V1]at h
  rcases h with rfl|h
  ·simp
  ·have:=uE σ (ν+1) m1 q h
   grind
theorem mem_range'{ν k n:Nat}:k∈Xy ν n↔ν<=k/\k<ν+n:=List.mem_range'_1
theorem Ai{wd ν:Nat}{K:PV->Mem->Prop}(h:pE P YK wd ν f ps m K):
 ∃p u,K p (app u m)/\(∀q∈u,q.1∈Xy ν wd)/\∀m2,(∀l∈ps.flatMap iW,look m2 l=look m l)->pE P YK wd ν f ps m2 λp' m'=>p'=p/\m'=app u m2:=by
 rcases h with⟨r,m1,hs,h16,Io,KC,hK⟩ |⟨ρ,m0,qs,r,m1,hio,hc,hle,h16,KG,hqs,hn,u9,Io,KC,hK⟩
 ·refine⟨yx (sig [] ν) r,uD (sig [] ν) ν m1,by rw[<-qa];omega,λq hq=>?_,λm2 zW=>.inl ⟨r,m1,by rw[Al zW];omega,h16,Io,KC,rfl,qa _ _ _ _⟩⟩
  rw[mem_range'];have:=uE _ _ _ q hq;omega
 ·obtain rfl:ρ=[]:=by simp_all
  have h0:m0=[]:=by
   have:=(sy u9).1
   grind
  subst h0;simp only[VY,List.drop_zero,oI]at hK
  refine⟨yx (sig [] ν) r,uD (sig [] ν) ν m1,by rw[<-qa];omega,λq hq=>?_,λm2 zW=>.inr ⟨[],[],qs,r,m1,.inr rfl,hc,hle,h16,KG,hqs,hn,trivial,Io,KC,rfl,?_⟩⟩
  ·rw[mem_range']
   have:=uE _ _ _ q hq
   grind
  ·simp only[VY,List.drop_zero,oI];exact qa _ _ _ _
theorem Lr{wd ν:Nat}{K:PV->Mem->Prop}(h:iT P YK wd ν o t m K):
 ∃p u,K p (app u m)/\(∀q∈u,q.1∈PZ o t wd ν)/\∀t2 m2,Same o t m t2 m2->iT P YK wd ν o t2 m2 λp' m'=>p'=p/\m'=app u m2:=by
 have red:∀{K:PV->Prop},pZ P o t m K->∃p,K p/\∀t2 m2,Same o t m t2 m2->pZ P o t2 m2 λp'=>p'=p:=by
  intro K h;obtain⟨p,h1,h2⟩:=SB h;exact⟨p,h1,λt2 m2 hs=>by rw[Lx hs];omega⟩
 have imp:∀{t2 m2 p},pZ P o t2 m2 (λp'=>p'=p)->pZ P o t2 m2 λp'=>p'=p/\m2=app [] m2:=by
  intro t2 m2 p h;have:(λp'=>p'=p/\m2=app [] m2)=λp'=>p'=p:=by funext p';simp[app]
  simp_all
 cases o with
 |alloc T=>
  simp only[iT]at *
  unfold zx at *
  split at h
  ·rename_i c cs hz
   exact⟨_,[(ν,YH _)],h,by simp[PZ],λt2 m2 _=>by simp only[hz];exact⟨trivial,rfl⟩⟩
  simp_all
 |box T x=>
  simp only[iT]at *
  unfold zx at *
  split at h
  ·rename_i c cs hz
   exact⟨_,[(ν,YH _)],h,by simp[PZ],λt2 m2 hs=>by rw[hs.te x Yf];simp only[hz];exact⟨trivial,rfl⟩⟩
  simp_all
 |buildSlice T n ps=>
  simp only[iT]at *
  have e:∀{t2 m2},Same (.buildSlice T n ps) t m t2 m2->(ps.toList.map λq=>(q.1,gh t2 q.2))=ps.toList.map λq=>(q.1,gh t q.2):=λhs=>Wy λq hq=>by
   rw[hs.te q.2 (by simp only[Op.operands];grind)]
  unfold mU at *
  split at h
  ·rename_i e1 hu
   split at h
   ·rename_i zc hz
    obtain⟨h1,h2,h3,h⟩:=h
    split at h
    ·rename_i cs hf
     exact⟨_,[(ν,YH _)],h,by simp[PZ],λt2 m2 hs=>by rw[e hs];simp only[hu,hz,hf];exact⟨h1,h2,h3,trivial,rfl⟩⟩
    simp_all
   simp_all
  simp_all
 |makeSlice T l c=>
  simp only[iT]at *
  unfold vt at *
  split at h
  ·rename_i e n n' hu hl hc
   split at h
   ·rename_i zc hz
    obtain⟨h1,h2,h3,h4,h5,h6,h⟩:=h;exact⟨_,[(ν,YH _)],h,by simp[PZ],λt2 m2 hs=>by
     rw[hs.te l Yf,hs.te c Yf];simp only[hu,hl,hc,hz];exact⟨h1,h2,h3,h4,h5,h6,trivial,rfl⟩⟩
   simp_all
  simp_all
 |store T x y=>
  simp only[iT]at *
  unfold vu at *
  split at h
  ·rename_i l i o qs hx hq
   obtain⟨mb,hm,h⟩:=iv h
   split at h
   ·rename_i cs sL
    obtain⟨h1,h2,h3,h⟩:=h;have hl:l<m.length:=(VT.1 hm).1;refine⟨_,[(l,YH _)],by rw[uc hl];exact h,by simp[PZ,hx,iW,pF,nM,o5],λt2 m2 hs=>?_⟩
    have zW:m2[l]?=YH (YH mb):=jb.1 ((hs.refs rfl (x:=x) Yf (by simp[hx,iW,pF,nM,o5])).trans (jb.2 hm))
    rw[hs.te x Yf,hs.te y Yf];simp only[hx,hq,live,zW,sL];exact⟨h1,h2,h3,trivial,(uc (VT.1 zW).1 _).symm⟩
   simp_all
  simp_all
 |call c=>
  have ha:∀x∈c.args.toList,x∈(Op.call c).operands.toList:=λx hx=>by
   simp only[Op.operands,Call.operands,XA,Wl];simp_all
  have Rt:∀{t2 m2},Same (.call c) t m t2 m2->c.args.toList.map (gh t2)=c.args.toList.map (gh t):=λhs=>map_congr λx hx=>hs.te x (ha x hx)
  have hrefs:∀{t2 m2},Same (.call c) t m t2 m2->∀l∈(c.args.toList.map (gh t)).flatMap iW,look m2 l=look m l:=λhs l hl=>by
   simp only[WN,List.mem_map]at hl
   obtain⟨p,⟨x,hx,rfl⟩,hl⟩:=hl;exact hs.refs rfl (ha x hx) hl
  simp only[iT]at *
  split at h
  ·rename_i hc
   split at h
   ·rename_i s x T T' hx hT
    obtain⟨hTT,h⟩:=h;have US:s∈c.args.toList:=by simp_all
    have uJ:x∈c.args.toList:=by simp_all
    have hrw:∀{t2 m2},Same (.call c) t m t2 m2->gh t2 s=gh t s/\gh t2 x=gh t x/\pH m2 (gh t x)=pH m (gh t x):=λhs=>⟨hs.te s (ha s US),hs.te x (ha x uJ),JD λl hl=>hs.refs rfl (ha x uJ) hl⟩
    unfold gf at h
    split at h
    ·rename_i e hu
     split at h
     ·rename_i zc es hz xT
      obtain⟨h1,h2,h3,h⟩:=h
      split at h
      ·rename_i l zl
       obtain⟨mb,hm,g1,g2,g3,g4,h⟩:=iv h;have hl:l<m.length:=(VT.1 hm).1;refine⟨_,[(l,YI),(ν,YH _)],by simp only[app,Wn,Wi];rw[show qQ m (l,YI)=m.set l YI from uc hl YI];exact h,?_,λt2 m2 hs=>?_⟩
       ·intro q hq
        simp only[PZ,hc,V1,V0,or_false]at hq⊢
        rcases hq with rfl|rfl
        ·exact .inr (WN.2 ⟨s,by simp_all,by simp[zl,iW,pF,nM,o5]⟩)
        omega
       ·obtain⟨e1,e2,e3⟩:=hrw hs
        have zW:m2[l]?=YH (YH mb):=jb.1 ((hs.refs rfl (ha s US) (by simp[zl,iW,pF,nM,o5])).trans (jb.2 hm))
        refine⟨hTT,?_⟩;unfold gf;rw[e1,e2];simp only[hu,hz,e3,xT,zl,live,zW];refine⟨h1,h2,h3,g1,g2,g3,g4,trivial,?_⟩;simp only[app,Wn,Wi];rw[show qQ m2 (l,YI)=m2.set l YI from uc (VT.1 zW).1 YI];rfl
      ·rename_i l a b zl
       obtain⟨h0,h⟩:=h;obtain⟨mb,hm,g1,g2,g5,g3,g4,h⟩:=iv h;have hl:l<m.length:=(VT.1 hm).1;refine⟨_,[(l,YI),(ν,YH _)],by simp only[app,Wn,Wi];rw[show qQ m (l,YI)=m.set l YI from uc hl YI];exact h,?_,λt2 m2 hs=>?_⟩
       ·intro q hq
        simp only[PZ,hc,V1,V0,or_false]at hq⊢
        rcases hq with rfl|rfl
        ·exact .inr (WN.2 ⟨s,by simp_all,by simp[zl,iW,pF,nM,o5]⟩)
        omega
       ·obtain⟨e1,e2,e3⟩:=hrw hs
        have zW:m2[l]?=YH (YH mb):=jb.1 ((hs.refs rfl (ha s US) (by simp[zl,iW,pF,nM,o5])).trans (jb.2 hm))
        refine⟨hTT,?_⟩;unfold gf;rw[e1,e2];simp only[hu,hz,e3,xT,zl,live,zW];refine⟨h1,h2,h3,h0,g1,g2,g5,g3,g4,trivial,?_⟩;simp only[app,Wn,Wi];rw[show qQ m2 (l,YI)=m2.set l YI from uc (VT.1 zW).1 YI];rfl
      ·rename_i zl
       obtain⟨g3,g4,h⟩:=h;refine⟨_,[(ν,YH _)],h,by simp[PZ,hc],λt2 m2 hs=>?_⟩
       obtain⟨e1,e2,e3⟩:=hrw hs;refine⟨hTT,?_⟩;unfold gf;rw[e1,e2];simp only[hu,hz,e3,xT,zl];exact⟨h1,h2,h3,g3,g4,trivial,rfl⟩
      simp_all
     simp_all
    simp_all
   simp_all
  ·rename_i f hc
   obtain⟨hf,h⟩:=h;obtain⟨p,u,h1,h2,h3⟩:=Ai h;refine⟨p,u,h1,by simp only[PZ,hc];omega,λt2 m2 hs=>⟨hf,?_⟩⟩
   grind
  ·rename_i i hc
   have hi:Operand.tmp i∈(Op.call c).operands.toList:=by simp[Op.operands,Call.operands,hc]
   split at h
   ·rename_i f cs hti
    obtain⟨hR,hf,h⟩:=h;obtain⟨p,u,h1,h2,h3⟩:=Ai h;refine⟨p,u,h1,by simp only[PZ,hc];omega,λt2 m2 hs=>?_⟩
    have e1:=hs.te _ hi;simp only[gh,hti]at e1
    rw[e1,Rt hs];refine⟨hR,hf,h3 m2 λl hl=>?_⟩
    rw[List.flatMap_append,Wl]at hl
    rcases hl with hl|hl
    ·grind
    ·have hfn:gh t (.tmp i)=.fn f cs:=hti
     refine hs.refs rfl hi ?_;rw[hfn];simp only[iW,pF,nM];obtain⟨c1,Ax,hl1⟩:=WN.1 hl;refine WN.2 ⟨c1,Ax,?_⟩;have hR1:=hR c1 Ax
     cases c1<;>first|exact hl1|simp[Ck]at hR1
   simp_all
  ·obtain⟨p,h1,h2⟩:=red h
   exact⟨p,[],h1,by simp,λt2 m2 hs=>imp (h2 t2 m2 hs)⟩
 |_=>
  simp only[iT]at *
  obtain⟨p,h1,h2⟩:=red h;exact⟨p,[],h1,by simp,λt2 m2 hs=>imp (h2 t2 m2 hs)⟩
end
/-! ZeX. -/
theorem xC(m:Mem)(q:Nat×Option MB)(l:Nat):(qQ m q)[l]?=if l=q.1 then YH q.2 else if l<m.length then m[l]? else if l<q.1+1 then YH YI else none:=by
 unfold qQ
 grind
theorem Qo(m:Mem)(q:Nat×Option MB):(qQ m q).length=max m.length (q.1+1):=by simp[qQ];omega
theorem NB(m:Mem){q r:Nat×Option MB}(h:q.1≠r.1):qQ (qQ m q) r=qQ (qQ m r) q:=by
 apply Xo;intro l;simp only[xC,Qo]
 grind
theorem G0{q:Nat×Option MB}:∀(u:Tx) (m:Mem),(∀r∈u,q.1≠r.1)->app u (qQ m q)=qQ (app u m) q
 | [],m,_=>rfl
 |r::u,m,h=>by
  show app u (qQ (qQ m q) r)=qQ (app u (qQ m r)) q;rw[NB m (h r Wp),G0 u _ λr' Om=>h r' (Wk _ Om)]
theorem G6:∀(u v:Tx) (m:Mem),(∀q∈u,∀r∈v,q.1≠r.1)->app v (app u m)=app u (app v m)
 | [],v,m,_=>rfl
 |q::u,v,m,h=>by
  show app v (app u (qQ m q))=app u (qQ (app v m) q);rw[G6 u v _ λq' UR r hr=>h q' (Wk _ UR) r hr,G0 v m λr hr=>h q Wp r hr]
theorem zq{m:Mem}(h:q.1≠l):look (qQ m q) l=look m l:=by
 unfold look;rw[xC,if_neg (λe=>h e.symm)]
 grind
theorem AA{m m':Mem}(h:look m l=look m' l):look (qQ m q) l=look (qQ m' q) l:=by
 by_cases e:q.1=l
 ·unfold look
  rw[xC,xC,if_pos e.symm,if_pos e.symm]
 ·rw[zq e,zq e,h]
theorem vm{l:Nat}:∀(u:Tx) {m m':Mem},look m l=look m' l->look (app u m) l=look (app u m') l
 | [],_,_,h=>h
 |q::u,_,_,h=>vm u (AA h)
theorem Cq{l:Nat}:∀(u:Tx) (m:Mem),(∀q∈u,q.1≠l)->look (app u m) l=look m l
 | [],_,_=>rfl
 |q::u,m,h=>(Cq u _ λr hr=>h r (Wk _ hr)).trans (zq (h q Wp))
/-! The state behind the Zcv of L. -/
structure RA where
 d:Option Tmp
 p:PV
 u:Tx
def vE(L:Nat->Bool):Nat->List RA->List PV->List PV
 |_,[],t=>t
 |i,a::as_,t=>vE L (i+1) as_ (if L i=YJ then iZ t a.d a.p else t)
def stM(L:Nat->Bool):Nat->List RA->Mem->Mem
 |_,[],m=>m
 |i,a::as_,m=>stM L (i+1) as_ (if L i=YJ then app a.u m else m)
theorem SF(t:List PV)(d:Option Tmp)(p:PV):(iZ t d p).length=t.length:=by cases d<;>simp[iZ]
theorem Pe{t t':List PV}(hl:t.length=t'.length)(h:t.getD s .un=t'.getD s .un):(iZ t d p).getD s .un=(iZ t' d p).getD s .un:=by
 cases d with
 |none=>exact h
 |some d=>
  simp only[iZ,Xz,List.getElem?_set,hl]
  grind
theorem M1{t:List PV}(h:d≠YH s):(iZ t d p).getD s .un=t.getD s .un:=by
 cases d with
 |none=>rfl
 |some d=>
  have:d≠s:=λe=>h (by rw[e])
  simp only[iZ,Xz,Wx this]
theorem Pd{t:List PV}{d e:Option Tmp}{p q:PV}(h:d=YI\/d≠e):iZ (iZ t d p) e q=iZ (iZ t e q) d p:=by
 cases d with
 |none=>rfl
 |some d=>
  cases e with
  |none=>rfl
  |some e=>
   have:d≠e:=λh'=>by simp_all
   simp only[iZ];exact List.set_comm _ _ this
theorem EV{L L':Nat->Bool}{s:Nat}:∀(as_:List RA) (i:Nat) (t t':List PV),t.length=t'.length->t.getD s .un=t'.getD s .un->(∀k a,as_[k]?=YH a->L (i+k)≠L' (i+k)->a.d≠YH s)->(vE L i as_ t).getD s .un=(vE L' i as_ t').getD s .un
 | [],_,_,_,_,h,_=>h
 |a::as_,i,t,t',hl,h,hd=>by
  simp only[vE];have h0:=hd 0 a rfl;simp only[WU]at h0
  refine EV as_ (i+1) _ _ ?_ ?_ λk b hk iq=>hd (k+1) b Yg Yd
  ·split<;>split<;>simp[SF,hl]
  ·cases h1:L i<;>cases h2:L' i<;>simp only[WA,if_false,if_true]
   ·exact h
   ·rw[M1 (h0 Yg)];exact h
   ·rw[M1 (h0 Yg)];exact h
   ·exact Pe hl h
theorem EU{L L':Nat->Bool}{l:Nat}:∀(as_:List RA) (i:Nat) (m m':Mem),look m l=look m' l->(∀k a,as_[k]?=YH a->L (i+k)≠L' (i+k)->∀q∈a.u,q.1≠l)->look (stM L i as_ m) l=look (stM L' i as_ m') l
 | [],_,_,_,h,_=>h
 |a::as_,i,m,m',h,hd=>by
  simp only[stM];have h0:=hd 0 a rfl;simp only[WU]at h0
  refine EU as_ (i+1) _ _ ?_ λk b hk iq=>hd (k+1) b Yg Yd
  cases h1:L i<;>cases h2:L' i<;>simp only[WA,if_false,if_true]
  ·exact h
  ·rw[Cq _ _ (h0 Yg)];exact h
  ·rw[Cq _ _ (h0 Yg)];exact h
  ·exact vm _ h
theorem C5{L:Nat->Bool}{d:Option Tmp}{p:PV}:∀(as_:List RA) (i:Nat) (t:List PV),(∀k a,as_[k]?=YH a->L (i+k)=YJ->d=YI\/d≠a.d)->vE L i as_ (iZ t d p)=iZ (vE L i as_ t) d p
 | [],_,_,_=>rfl
 |a::as_,i,t,h=>by
  simp only[vE];have h0:=h 0 a rfl;simp only[WU]at h0
  cases h1:L i
  ·simp only[WA,if_false]
   exact C5 as_ (i+1) t λk b hk hL=>h (k+1) b Yg Yd
  ·simp only[if_true]
   rw[Pd (h0 h1)];exact C5 as_ (i+1) _ λk b hk hL=>h (k+1) b Yg Yd
theorem C3{L:Nat->Bool}{u:Tx}:∀(as_:List RA) (i:Nat) (m:Mem),(∀k a,as_[k]?=YH a->L (i+k)=YJ->∀q∈u,∀r∈a.u,q.1≠r.1)->stM L i as_ (app u m)=app u (stM L i as_ m)
 | [],_,_,_=>rfl
 |a::as_,i,m,h=>by
  simp only[stM];have h0:=h 0 a rfl;simp only[WU]at h0
  cases h1:L i
  ·simp only[WA,if_false]
   exact C3 as_ (i+1) m λk b hk hL=>h (k+1) b Yg Yd
  ·simp only[if_true]
   rw[G6 u a.u m (h0 h1)];exact C3 as_ (i+1) _ λk b hk hL=>h (k+1) b Yg Yd
def ins(L:Nat->Bool)(j:Nat):Nat->Bool:=λi=>if i=j then YJ else L i
theorem LX{L L':Nat->Bool}:∀(as_:List RA) (i:Nat) (t:List PV),(∀k,k<as_.length->L (i+k)=L' (i+k))->vE L i as_ t=vE L' i as_ t
 | [],_,_,_=>rfl
 |a::as_,i,t,h=>by
  simp only[vE];have h0:=h 0 Ye;simp only[WU]at h0
  rw[h0];exact LX as_ (i+1) _ λk hk=>by rw[show i+1+k=i+(k+1)by omega];simp_all
theorem LW{L L':Nat->Bool}:∀(as_:List RA) (i:Nat) (m:Mem),(∀k,k<as_.length->L (i+k)=L' (i+k))->stM L i as_ m=stM L' i as_ m
 | [],_,_,_=>rfl
 |a::as_,i,m,h=>by
  simp only[stM];have h0:=h 0 Ye;simp only[WU]at h0
  rw[h0];exact LW as_ (i+1) _ λk hk=>by rw[show i+1+k=i+(k+1)by omega];simp_all
theorem Ni{L:Nat->Bool}{a0:RA}:∀(as_:List RA) (i k0:Nat) (t:List PV),as_[k0]?=YH a0->L (i+k0)=YK->(∀k a,as_[k]?=YH a->k0<k->L (i+k)=YJ->a0.d=YI\/a0.d≠a.d)->vE (ins L (i+k0)) i as_ t=iZ (vE L i as_ t) a0.d a0.p
 | [],_,_,_,h,_,_=>by grind
 |a::as_,i,k0,t,h,hL,hd=>by
  simp only[vE]
  cases k0 with
  |zero=>
   obtain rfl:a=a0:=by simp_all
   simp only[WU]at hL⊢
   have ei:ins L i i=true:=by simp[ins]
   simp only[ei,if_true,hL,WA,if_false];have e:vE (ins L i) (i+1) as_ (iZ t a.d a.p)=vE L (i+1) as_ (iZ t a.d a.p):=LX as_ (i+1) _ λk hk=>by simp only[ins];grind
   rw[e];exact C5 as_ (i+1) t λk b hk hb=>hd (k+1) b Yg X9 Yd
  |succ k0=>
   have e1:ins L (i+(k0+1)) i=L i:=by simp only[ins];simp
   rw[e1,show i+(k0+1)=i+1+k0 by omega]
   exact Ni as_ (i+1) k0 _ Yg Yd λk b hk bU hb=>hd (k+1) b Yg X9 Yd
theorem Nh{L:Nat->Bool}{a0:RA}:∀(as_:List RA) (i k0:Nat) (m:Mem),as_[k0]?=YH a0->L (i+k0)=YK->(∀k a,as_[k]?=YH a->k0<k->L (i+k)=YJ->∀q∈a0.u,∀r∈a.u,q.1≠r.1)->stM (ins L (i+k0)) i as_ m=app a0.u (stM L i as_ m)
 | [],_,_,_,h,_,_=>by grind
 |a::as_,i,k0,m,h,hL,hd=>by
  simp only[stM]
  cases k0 with
  |zero=>
   obtain rfl:a=a0:=by simp_all
   simp only[WU]at hL⊢
   have ei:ins L i i=true:=by simp[ins]
   simp only[ei,if_true,hL,WA,if_false];have e:stM (ins L i) (i+1) as_ (app a.u m)=stM L (i+1) as_ (app a.u m):=LW as_ (i+1) _ λk hk=>by simp only[ins];grind
   rw[e];exact C3 as_ (i+1) m λk b hk hb=>hd (k+1) b Yg X9 Yd
  |succ k0=>
   have e1:ins L (i+(k0+1)) i=L i:=by simp only[ins];simp
   rw[e1,show i+(k0+1)=i+1+k0 by omega]
   exact Nh as_ (i+1) k0 _ Yg Yd λk b hk bU hb=>hd (k+1) b Yg X9 Yd
/-! The check: L3 is not ordered is apart. -/
structure LE where
 rd:List Nat
 wr:List Nat
 ts:List Nat
 d:Option Nat
instance :Inhabited LE:=⟨⟨[],[],[],YI⟩⟩
def Za0(ops:Array Oper)(o:Oper):List Nat:=match o.guard with
 |none=>[]
 |some (j,_)=>((ops[j]?).bind (·.dst)).toList
def Tr:Operand->List Nat
 |.tmp i=>[i]
 |_=>[]
def Ak(ops:Array Oper)(o:Oper):List Nat:=(o.op.operands.toList.flatMap Tr)++Za0 ops o
def KS(ops:Array Oper)(o:Oper)(t:List PV)(wd ν:Nat):LE:=⟨opR o.op t,PZ o.op t wd ν,Ak ops o,o.dst⟩
def le0(ops:Array Oper)(o:Oper):LE:=⟨[],[],Ak ops o,o.dst⟩
def qP(a b:List Nat):Bool:=a.all λx=>!b.contains x
theorem r6{a b:List Nat}(h:qP a b=YJ){x y:Nat}(hx:x∈a)(hy:y∈b):x≠y:=by
 rintro rfl;have:=V2.1 h x hx
 simp_all
def yU(a b:LE):Bool:=qP a.wr b.rd&&qP a.wr b.wr&&qP b.wr a.rd&&qP a.d.toList b.ts&&qP b.d.toList a.ts&&qP a.d.toList b.d.toList
def R8(acc:List Nat)(o:Oper):Nat:=o.after.toList.foldr (λe s=>if Region.binds .any e then s |||2 ^ e.on |||acc.getD e.on 0 else s) 0
def MM:List Oper->List Nat->List Nat
 | [],acc=>acc
 |o::rest,acc=>MM rest (acc++[R8 acc o])
def Kj(ops:List Oper)(g:List LE):Bool:=
 let ms:=MM ops []
 (Wg ops.length).all λj=>(((ops[j]?).map (·.after.all λe=>!Region.binds .any e ||YL (e.on<j))).getD YK)&&(Wg j).all λi=>(ms.getD j 0).testBit i ||yU (g.getD i default) (g.getD j default)
def wO(σ:Nat->Nat):List Nat->Mem->Tx
 |l::ρ,x::m1=>(l,x.map (mV σ))::wO σ ρ m1
 |_,_=>[]
theorem EG{σ:Nat->Nat}:∀(ρ:List Nat) (m1 m:Mem),(∀l∈ρ,l<m.length)->oI σ ρ m1 m=app (wO σ ρ m1) m
 | [],m1,m,_=>by rfl
 |l::ρ,[],m,_=>rfl
 |l::ρ,x::m1,m,h=>by
  simp only[oI];rw[EG ρ m1 _ (λk hk=>by grind)]
  show app (wO σ ρ m1) _=app (wO σ ρ m1) (qQ m (l,x.map (mV σ)));rw[show qQ m (l,x.map (mV σ))=m.set l (x.map (mV σ))from uc (h l Wp) _]
theorem xZ{σ:Nat->Nat}{m m2:Mem}{n:Nat}:∀{ρ:List Nat} {m0:Mem},(∀l∈ρ,look m2 l=look m l)->o8 σ m n ρ m0->o8 σ m2 n ρ m0
 | [],[],_,_=>trivial
 | [],_::_,_,h=>h.elim
 |_::_,[],_,h=>h.elim
 |l::ρ,YI::m0,_,h=>h.elim
 |l::ρ,YH J2::m0,hl,h=>⟨jb.1 ((hl l Wp).trans (jb.2 h.1)),h.2.1,xZ (λk hk=>hl k (Wk _ hk)) h.2.2⟩
def pIO(P:Program)(wd ν:Nat)(f:FuncId)(ps:List PV)(m:Mem)(K:List Nat->PV->Mem->Prop):Prop:=
 ∃(ρ:List Nat) (m0:Mem) (qs:List PV) (r:PV) (m1:Mem),fL P f qs m0 r m1/\m0.length<=m1.length/\m1.length-m0.length<=wd/\ps=qs.map (yw (sig ρ ν))/\(∀q∈qs,sT YK q/\FT m0.length q=YJ)/\ρ.Nodup/\o8 (sig ρ ν) m m0.length ρ m0/\
  (∀mb,YH mb∈m1->∀cs∈mb.es,∀p∈cs,eC YK p)/\qK YK r/\K ρ (yx (sig ρ ν) r) (jz (sig ρ ν) ν (m1.drop ρ.length) (oI (sig ρ ν) ρ m1 m))
def Lu(P:Program)(wd ν:Nat)(o:Op)(t:List PV)(m:Mem)(K:List Nat->PV->Mem->Prop):Prop:=match o with
 |.call ⟨.value (.func f),xs,_⟩=>tG P f/\pIO P wd ν f (xs.toList.map (gh t)) m K
 |_=>False
theorem E5{σ:Nat->Nat}:∀(ρ:List Nat) (m1:Mem) (q:Nat×Option MB),q∈wO σ ρ m1->q.1∈ρ
 | [],m1,q,h=>by cases m1<;>simp[wO]at h
 |l::ρ,[],q,h=>by simp[wO]at h
 |l::ρ,x::m1,q,h=>by
  simp only[wO,V1]at h
  rcases h with rfl|h
  ·simp
  ·exact Wk _ (E5 ρ m1 q h)
theorem OZ{P:Program}{m:Mem}{wd ν:Nat}{K:List Nat->PV->Mem->Prop}(h:pIO P wd ν f ps m K):
 ∃(ρ:List Nat) (p:PV) (u:Tx),K ρ p (app u m)/\(∀q∈u,q.1∈ρ++Xy ν wd)/\∀m2,(∀l∈ρ,look m2 l=look m l)->pE P YJ wd ν f ps m2 λp' m'=>p'=p/\m'=app u m2:=by
 obtain⟨ρ,m0,qs,r,m1,hc,hle,h16,KG,hqs,hn,u9,Io,KC,hK⟩:=h;have bU:∀(m2:Mem),o8 (sig ρ ν) m2 m0.length ρ m0->∀l∈ρ,l<m2.length:=λm2 hi l hl=>by
  obtain⟨i,hi1,rfl⟩:=List.getElem_of_mem hl;obtain⟨J2,_,h2,_⟩:=(sy hi).2 i ρ[i] (VU hi1)
  grind
 have e:∀(m2:Mem),o8 (sig ρ ν) m2 m0.length ρ m0->jz (sig ρ ν) ν (m1.drop ρ.length) (oI (sig ρ ν) ρ m1 m2)=app (wO (sig ρ ν) ρ m1++uD (sig ρ ν) ν (m1.drop ρ.length)) m2:=λm2 hi=>by
  rw[qa,EG ρ m1 m2 (bU m2 hi)];simp only[app,List.foldl_append]
 have hlen:=(sy u9).1;refine⟨ρ,yx (sig ρ ν) r,wO (sig ρ ν) ρ m1++uD (sig ρ ν) ν (m1.drop ρ.length),by grind,λq hq=>?_,λm2 zW=>?_⟩
 ·rcases Wl.1 hq with hq|hq
  ·exact Xc _ (E5 _ _ _ hq)
  ·have:=uE _ _ _ q hq
   grind
 ·have Zd1:=xZ zW u9
  exact .inr ⟨ρ,m0,qs,r,m1,.inl rfl,hc,hle,h16,KG,hqs,hn,Zd1,Io,KC,rfl,e m2 Zd1⟩
def KO:List Nat->Nat->Bool
 | [],_=>YK
 |a::l,i=>if a=i then YJ else KO l i
def Vh(ops:Array Oper)(o:Oper)(ρ:List Nat)(wd ν:Nat):LE:=⟨ρ,ρ++Xy ν wd,Ak ops o,o.dst⟩
def lY(P:Program)(wd base:Nat)(fl:List Nat)(ops:Array Oper)(K:List LE->List PV->Mem->Prop):Nat->List Oper->List LE->List PV->Mem->Prop
 |_,[],g,t,m=>K g t m
 |i,o::rest,g,t,m=>match o.guard with
  |none=>if KO fl i=YJ then Lu P wd (base+wd*i) o.op t m λρ p m'=>lY P wd base fl ops K (i+1) rest (g++[Vh ops o ρ wd (base+wd*i)]) (iZ t o.dst p) m'
   else iT P YK wd (base+wd*i) o.op t m λp m'=>lY P wd base fl ops K (i+1) rest (g++[KS ops o t wd (base+wd*i)]) (iZ t o.dst p) m'
  |some (j,b)=>match(ops[j]?).bind (·.dst)with
   |none=>lY P wd base fl ops K (i+1) rest (g++[le0 ops o]) (iZ t o.dst .ud) m
   |some d=>match t.getD d .un,b with
    |.v (.bool c),YJ=>gate c (iT P YK wd (base+wd*i) o.op (t.set d (.v (.bool YJ))) m λp m'=>lY P wd base fl ops K (i+1) rest (g++[KS ops o (t.set d (.v (.bool YJ))) wd (base+wd*i)]) (iZ (t.set d (.v (.bool YJ))) o.dst p) m')
     (lY P wd base fl ops K (i+1) rest (g++[le0 ops o]) (iZ (t.set d (.v (.bool YK))) o.dst .ud) m)
    |.v (.bool c),YK=>gate c (lY P wd base fl ops K (i+1) rest (g++[le0 ops o]) (iZ (t.set d (.v (.bool YJ))) o.dst .ud) m)
     (iT P YK wd (base+wd*i) o.op (t.set d (.v (.bool YK))) m λp m'=>lY P wd base fl ops K (i+1) rest (g++[KS ops o (t.set d (.v (.bool YK))) wd (base+wd*i)]) (iZ (t.set d (.v (.bool YK))) o.dst p) m')
    |.ud,_=>lY P wd base fl ops K (i+1) rest (g++[le0 ops o]) (iZ t o.dst .ud) m
    |_,_=>False
def Want(ops:Array Oper)(o:Oper)(t:List PV):Prop:=o.guard=YI\/∃j b d,o.guard=YH (j,b)/\(ops[j]?).bind (·.dst)=YH d/\t.getD d .un=.v (.bool b)
def J6(ops:Array Oper)(o:Oper)(t:List PV):Prop:=∃j b,o.guard=YH (j,b)/\((ops[j]?).bind (·.dst)=YI\/∃d,(ops[j]?).bind (·.dst)=YH d/\(t.getD d .un=.ud\/t.getD d .un=.v (.bool (!b))))
def Zff(P:Program)(wd ν:Nat)(ops:Array Oper)(o:Oper)(a:RA)(t:List PV)(m:Mem):Prop:=
 (Want ops o t/\∃io:Bool,iT P io wd ν o.op t m λp' m'=>p'=a.p/\m'=app a.u m)\/(J6 ops o t/\a.p=.ud/\a.u=[])
structure Stp(P:Program)(wd ν:Nat)(ops:Array Oper)(o:Oper)(a:RA)(g:LE)(t:List PV)(m:Mem):Prop where
 ad:a.d=o.dst
 gd:g.d=o.dst
 gt:g.ts=Ak ops o
 wr:∀q∈a.u,q.1∈g.wr
 ZfH:∀t2 m2,(∀s∈g.ts,t2.getD s .un=t.getD s .un)->(∀l∈g.rd,look m2 l=look m l)->Zff P wd ν ops o a t2 m2
section
variable {P:Program} {wd base:Nat} {fl:List Nat} {ops:Array Oper} {K:List LE->List PV->Mem->Prop}
theorem C4{L:Nat->Bool}:∀(as_:List RA) (i:Nat) (t:List PV),(∀k,L (i+k)=YK)->vE L i as_ t=t
 | [],_,_,_=>rfl
 |a::as_,i,t,h=>by
  simp only[vE];rw[show L i=YK from h 0];exact C4 as_ (i+1) t λk=>by rw[show i+1+k=i+(k+1)by omega];simp_all
theorem C2{L:Nat->Bool}:∀(as_:List RA) (i:Nat) (m:Mem),(∀k,L (i+k)=YK)->stM L i as_ m=m
 | [],_,_,_=>rfl
 |a::as_,i,m,h=>by
  simp only[stM];rw[show L i=YK from h 0];exact C2 as_ (i+1) m λk=>by rw[show i+1+k=i+(k+1)by omega];simp_all
theorem HU{t t2:List PV}(h:∀s∈Tr x,t2.getD s .un=t.getD s .un):gh t2 x=gh t x:=by
 cases x with
 |tmp i=>exact h i (by simp[Tr])
 |_=>rfl
theorem Jx{t:List PV}{d:Nat}(h:t.getD d .un=p)(iq:p≠.un):t.set d p=t:=by
 apply Xo
 grind
theorem Zav{o:Oper}{t t2:List PV}{m m2:Mem}{wd ν:Nat}(h1:∀s∈Ak ops o,t2.getD s .un=t.getD s .un)(h2:∀l∈opR o.op t,look m2 l=look m l):Same o.op t m t2 m2:=
 ⟨λx hx=>HU λs hs=>h1 s (Xc _ (WN.2 ⟨x,hx,hs⟩)),h2⟩
theorem EE:∀(l:List Oper) (i:Nat) (g:List LE) (t:List PV) (m:Mem),lY P wd base fl ops K i l g t m->
 ∃(as_:List RA) (gs:List LE),as_.length=l.length/\gs.length=l.length/\K (g++gs) (vE (λ_=>YJ) i as_ t) (stM (λ_=>YJ) i as_ m)/\
  ∀k o,l[k]?=YH o->∃a e,as_[k]?=YH a/\gs[k]?=YH e/\Stp P wd (base+wd*(i+k)) ops o a e (vE (λj=>YL (j<i+k)) i as_ t) (stM (λj=>YL (j<i+k)) i as_ m)
 | [],i,g,t,m,h=>by
  unfold lY at h
  exact⟨[],[],rfl,rfl,by simpa[vE,stM]using h,λk o hk=>by grind⟩
 |o::l,i,g,t,m,h=>by
  -- one step,and the rest
  have next:∀(a:RA) (e:LE),lY P wd base fl ops K (i+1) l (g++[e]) (iZ t a.d a.p) (app a.u m)->Stp P wd (base+wd*i) ops o a e t m->∃(as_:List RA) (gs:List LE),as_.length=(o::l).length/\gs.length=(o::l).length/\K (g++gs) (vE (λ_=>YJ) i as_ t) (stM (λ_=>YJ) i as_ m)/\
   ∀k o',(o::l)[k]?=YH o'->∃a e,as_[k]?=YH a/\gs[k]?=YH e/\Stp P wd (base+wd*(i+k)) ops o' a e (vE (λj=>YL (j<i+k)) i as_ t) (stM (λj=>YL (j<i+k)) i as_ m):=by
   intro a e h hs;obtain⟨as_,gs,h1,h2,h3,h4⟩:=EE l (i+1) _ _ _ h;refine⟨a::as_,e::gs,by grind,by grind,by simpa[vE,stM]using h3,λk o' hk=>?_⟩
   cases k with
   |zero=>
    obtain rfl:o=o':=by simp_all
    refine⟨a,e,rfl,rfl,?_⟩;rw[C4 _ _ _ (λk=>by simp),C2 _ _ _ (λk=>by simp)]
    omega
   |succ k=>
    obtain⟨a',e',g1,g2,g3⟩:=h4 k o' Yg;simp only[vE,stM,show YL (i<i+(k+1))=YJ by simp,if_true]
    grind
  have pass:∀(wG:∀t2:List PV,(∀s∈Ak ops o,t2.getD s .un=t.getD s .un)->J6 ops o t2),lY P wd base fl ops K (i+1) l (g++[le0 ops o]) (iZ t o.dst .ud) m->∃(as_:List RA) (gs:List LE),as_.length=(o::l).length/\gs.length=(o::l).length/\K (g++gs) (vE (λ_=>YJ) i as_ t) (stM (λ_=>YJ) i as_ m)/\
   ∀k o',(o::l)[k]?=YH o'->∃a e,as_[k]?=YH a/\gs[k]?=YH e/\Stp P wd (base+wd*(i+k)) ops o' a e (vE (λj=>YL (j<i+k)) i as_ t) (stM (λj=>YL (j<i+k)) i as_ m):=by
   intro wG h;exact next ⟨o.dst,.ud,[]⟩ (le0 ops o) h ⟨rfl,rfl,rfl,by simp,λt2 m2 h1 _=>.inr ⟨wG t2 h1,rfl,rfl⟩⟩
  have run:∀(hw:∀t2:List PV,(∀s∈Ak ops o,t2.getD s .un=t.getD s .un)->Want ops o t2),(iT P YK wd (base+wd*i) o.op t m λp m'=>lY P wd base fl ops K (i+1) l (g++[KS ops o t wd (base+wd*i)]) (iZ t o.dst p) m')->∃(as_:List RA) (gs:List LE),as_.length=(o::l).length/\gs.length=(o::l).length/\K (g++gs) (vE (λ_=>YJ) i as_ t) (stM (λ_=>YJ) i as_ m)/\
   ∀k o',(o::l)[k]?=YH o'->∃a e,as_[k]?=YH a/\gs[k]?=YH e/\Stp P wd (base+wd*(i+k)) ops o' a e (vE (λj=>YL (j<i+k)) i as_ t) (stM (λj=>YL (j<i+k)) i as_ m):=by
   intro hw h;obtain⟨p,u,h1,h2,h3⟩:=Lr h;exact next ⟨o.dst,p,u⟩ (KS ops o t wd (base+wd*i)) h1 ⟨rfl,rfl,rfl,h2,λt2 m2 e1 e2=>.inl ⟨hw t2 e1,YK,h3 t2 m2 (Zav (ops:=ops) (wd:=wd) (ν:=0) e1 e2)⟩⟩
  have gs:∀{j b d},o.guard=YH (j,b)->(ops[j]?).bind (·.dst)=YH d->d∈Ak ops o:=λhg hd=>List.mem_append_right _ (by simp[Za0,hg,hd])
  simp only[lY]at h
  split at h
  ·rename_i hg
   split at h
   ·unfold Lu at h
    split at h
    ·rename_i f xs Ts hop
     obtain⟨hfn,hc⟩:=h;obtain⟨ρ,p,u,hK,GR,Zf3⟩:=OZ hc;refine next ⟨o.dst,p,u⟩ (Vh ops o ρ wd (base+wd*i)) hK ⟨rfl,rfl,rfl,GR,λt2 m2 e1 e2=>.inl ⟨.inl hg,YJ,?_⟩⟩
     have Rt:xs.toList.map (gh t2)=xs.toList.map (gh t):=Wy λx hx=>HU λs hs=>e1 s (Xc _ (WN.2 ⟨x,by rw[hop];simp[Op.operands,Call.operands,Array.mem_toList_iff.1 hx],hs⟩))
     rw[hop];show tG P f/\pE P YJ wd _ f (xs.toList.map (gh t2)) m2 _;rw[Rt];exact⟨hfn,Zf3 m2 e2⟩
    simp_all
   ·exact run (λt2 _=>.inl hg) h
  ·rename_i j b hg
   split at h
   ·rename_i Dv;exact pass (λt2 _=>⟨j,b,hg,.inl Dv⟩) h
   ·rename_i d Dv
    split at h
    ·rename_i c hc
     have zk:=λc' (hc':c=c')=>Jx (t:=t) (d:=d) (p:=.v (.bool c')) (by rw[hc,hc']) Ye
     cases c with
     |true=>rw[zk YJ rfl]at h;exact run (λt2 e=>.inr ⟨j,YJ,d,hg,Dv,(e d (gs hg Dv)).trans hc⟩) (h.1 rfl)
     |false=>rw[zk YK rfl]at h;exact pass (λt2 e=>⟨j,YJ,hg,.inr ⟨d,Dv,.inr ((e d (gs hg Dv)).trans hc)⟩⟩) (h.2 rfl)
    ·rename_i c hc
     have zk:=λc' (hc':c=c')=>Jx (t:=t) (d:=d) (p:=.v (.bool c')) (by rw[hc,hc']) Ye
     cases c with
     |true=>rw[zk YJ rfl]at h;exact pass (λt2 e=>⟨j,YK,hg,.inr ⟨d,Dv,.inr ((e d (gs hg Dv)).trans hc)⟩⟩) (h.1 rfl)
     |false=>rw[zk YK rfl]at h;exact run (λt2 e=>.inr ⟨j,YK,d,hg,Dv,(e d (gs hg Dv)).trans hc⟩) (h.2 rfl)
    ·rename_i hc;exact pass (λt2 e=>⟨j,_,hg,.inr ⟨d,Dv,.inl ((e d (gs hg Dv)).trans hc)⟩⟩) h
    simp_all
/-! Zde the check ZgE. -/
def J4(ops:List Oper)(L:Nat->Bool):Prop:=∀(j:Nat) (o:Oper),ops[j]?=YH o->L j=YJ->∀e∈o.after.toList,Region.binds .any e=YJ->L e.on=YJ
theorem Cs{L:Nat->Bool}{acc:List Nat}(zh:∀j,L j=YJ->∀i,(acc.getD j 0).testBit i=YJ->L i=YJ):∀(es:List Edge),(∀e∈es,Region.binds .any e=YJ->L e.on=YJ)->∀i,(es.foldr (λe s=>if Region.binds .any e then s |||2 ^ e.on |||acc.getD e.on 0 else s) 0).testBit i=YJ->L i=YJ
 | [],_,i,h=>by grind
 |e::es,he,i,h=>by
  simp only[List.foldr_cons]at h
  split at h
  ·simp only[Nat.testBit_or,Bool.or_eq_true]at h
   rcases h with(h|h) |h
   ·exact Cs zh es (λe' h'=>he e' (Wk _ h')) i h
   all_goals grind
  ·exact Cs zh es (λe' h'=>he e' (Wk _ h')) i h
theorem zr{ops:List Oper}{L:Nat->Bool}(tD:J4 ops L):∀(l:List Oper) (acc:List Nat),(∀k,l[k]?=ops[acc.length+k]?)->(∀j,L j=YJ->∀i,(acc.getD j 0).testBit i=YJ->L i=YJ)->∀j,L j=YJ->∀i,((MM l acc).getD j 0).testBit i=YJ->L i=YJ
 | [],acc,_,zh=>zh
 |o::l,acc,hl,zh=>by
  refine zr tD l _ (λk=>?_) λj hj i hi=>?_
  ·have:=hl (k+1)
   grind
  ·rcases WJ j acc.length with h|h|h
   ·refine zh j hj i ?_
    grind
   ·subst h
    have h0:=hl 0;have mZ:(R8 acc o).testBit i=true:=by simp_all
    exact Cs zh o.after.toList (λe he hb=>tD acc.length o h0.symm hj e he hb) i mZ
   grind
theorem DS{ops:List Oper}{g:List LE}(h:Kj ops g=YJ){i j:Nat}(yN:i<j)(hj:j<ops.length):((MM ops []).getD j 0).testBit i=YJ\/yU (g.getD i default) (g.getD j default)=true:=by
 unfold Kj at h
 grind
theorem Ud{ops:List Oper}{g:List LE}(h:Kj ops g=YJ){o:Oper}(hj:ops[j]?=YH o):∀e∈o.after.toList,Region.binds .any e=YJ->e.on<j:=by
 have:=V2.1 h j (WC.2 (VT.1 hj).1);rw[V6,hj]at this
 have h1:=this.1;simp only[WB]at h1
 rw[<-XL]at h1
 grind
/-! The region. -/
section
variable {w:World} {O:Nat->Prop} {E:Env} {w0:World} {m:Mem} {S0:Nat->Prop} {P1:Nat->Key->Prop}
def unl(n:Nat)(listed:Array Bool):Nat:=((Wg n).filter λj=>!listed.getD j YK).length
theorem ZaM{n i:Nat}{listed:Array Bool}(hi:i<n)(hs:listed.size=n)(h:listed.getD i YK=YK):unl n (listed.setIfInBounds i YJ)<unl n listed:=by
 unfold unl;have e:(Wg n).filter (λj=>!(listed.setIfInBounds i YJ).getD j YK)=((Wg n).filter λj=>!listed.getD j YK).filter λj=>YL (j≠i):=by
  rw[List.filter_filter];apply List.filter_congr;intro j hj
  by_cases FH:j=i
  ·simp_all
  ·have:(listed.setIfInBounds i YJ).getD j YK=listed.getD j false:=by
    rw[Ww,Ww,XH (λe=>FH e.symm)]
   grind
 rw[e];exact List.length_filter_lt_length_iff_exists.2 ⟨i,by
  grind,by simp⟩
structure ZaT(P:Program)(wd:Nat)(ops:List Oper)(as_:List RA)(gs:List LE)(t0:List PV)(m0:Mem):Prop where
 la:as_.length=ops.length
 lg:gs.length=ops.length
 bW:Kj ops gs=YJ
 st:∀(k:Nat) (o:Oper),ops[k]?=YH o->∃a e,as_[k]?=YH a/\gs[k]?=YH e/\Stp P wd (m0.length+wd*k) ops.toArray o a e (vE (λj=>YL (j<k)) 0 as_ t0) (stM (λj=>YL (j<k)) 0 as_ m0)
theorem ZaP{ops:Array Oper}{o:Oper}{t:List PV}(h:Want ops o t)(ht:rG w E t tm):Region.wanted o (yielded ops tm)=true:=by
 rcases h with h|⟨j,b,d,hg,hd,hs⟩
 ·exact B7 h _
 ·rw[uo hg hd ht hs];simp
theorem OV{ops:Array Oper}{o:Oper}{t:List PV}(h:J6 ops o t)(ht:rG w E t tm):Region.wanted o (yielded ops tm)=false:=by
 obtain⟨j,b,hg,h|⟨d,hd,h|h⟩⟩:=h
 ·exact H8 hg h _
 ·exact H9 hg hd ht h
 ·rw[uo hg hd ht h];simp
def SBd(S0:Nat->Prop)(P1:Nat->Key->Prop)(w0:World)(O:Nat->Prop)(E:Env):Prop:=(∀b,E.S b->S0 b\/w0.heap.size<=b\/O b)/\∀b q,E.ω b q->P1 b q\/w0.heap.size<=b\/O b
theorem S8{w':World}{E':Env}(hk:Ok w0 O E w m)(h2:SBd S0 P1 w0 O E)(k2:Ext w w' E E'):SBd S0 P1 w0 O E':=by
 refine⟨λb hb=>?_,λb q hb=>?_⟩
 ·rcases k2.S' b hb with h|h|⟨l,B,hB,hz,rfl⟩
  ·exact h2.1 b h
  ·exact .inr (.inl (Wq hk.up.size h))
  ·rcases(hk.own l B hB hz).1 with h|h
   all_goals grind
 ·rcases k2.ω' b q hb with h|h|⟨l,B,hB,hz,rfl⟩
  ·exact h2.2 b q h
  ·exact .inr (.inl (Wq hk.up.size h))
  ·rcases(hk.own l B hB hz).1 with h|h
   all_goals grind
theorem Hz(Iu:0<wd){ops:List Oper}{as_:List RA}{gs:List LE}{t0:List PV}{m0:Mem}(DA:ZaT P wd ops as_ gs t0 m0){J:Env->Prop}(hJ:∀w w' E E',Ext w w' E E'->J E->J E'){K:List PV->Mem->Prop}{Q:Exit->Act->World->Prop}
 (hK:K (vE (λ_=>YJ) 0 as_ t0) (stM (λ_=>YJ) 0 as_ m0))
 (hQ:∀t m a w E,K t m->Ok w0 O E w m->(∀b,S0 b->E.S b)->SBd S0 P1 w0 O E->a.defers=[]->rG w E t a.tmps->J E->Q .normal a w):
 ∀(fuel:Nat) (listed:Array Bool) (a:Act) (w:World) (E:Env),listed.size=ops.length->unl ops.length listed<=fuel->J4 ops (λj=>listed.getD j YK)->
  Ok w0 O E w (stM (λj=>listed.getD j YK) 0 as_ m0)->(∀b,S0 b->E.S b)->SBd S0 P1 w0 O E->a.defers=[]->rG w E (vE (λj=>listed.getD j YK) 0 as_ t0) a.tmps->
  (∀l,E.used l->l<m0.length\/∃j,listed.getD j YK=YJ/\m0.length+wd*j<=l/\l<m0.length+wd*j+wd)->J E->wpAny P .any ops.toArray Q fuel listed a w:=by
 -- all is listed where nothing may Zhc
 have fin:∀(listed:Array Bool),listed.size=ops.length->Region.ready .any ops.toArray listed=[]->∀j,j<ops.length->listed.getD j YK=true:=by
  intro listed hs hr j
  induction j using Nat.strongRecOn with
  |_ j ih=>
   intro hj
   by_cases hl:listed.getD j YK=YJ
   ·exact hl
   ·exfalso
    have Dy:j∈Region.ready .any ops.toArray listed:=by
     unfold Region.ready;refine Xg.2 ⟨WC.2 (by simpa using hj),?_⟩
     have h1:listed.getD j YJ=false:=by
      have hjs:j<listed.size:=by rw[hs];exact hj
      have:listed.getD j YK=false:=by simpa using hl
      simp only[Xr,hjs,dif_pos]at this⊢
      exact this
     rw[h1];obtain⟨o,ho⟩:∃o,ops[j]?=YH o:=⟨ops[j],VU hj⟩;have yO:(ops.toArray)[j]?=YH o:=by simpa using ho
     rw[yO];simp only[WB,Xe,Bool.not_false,Bool.true_and];rw[<-XL,V2];intro e he
     by_cases hb:Region.binds .any e=YJ
     ·have bU:=Ud DA.bW ho e he hb
      simp[hb,ih e.on bU X9]
     ·simp[hb]
    rw[hr]at Dy
    cases Dy
 have done:∀(listed:Array Bool) (a:Act) (w:World) (E:Env),listed.size=ops.length->Region.ready .any ops.toArray listed=[]->Ok w0 O E w (stM (λj=>listed.getD j YK) 0 as_ m0)->(∀b,S0 b->E.S b)->SBd S0 P1 w0 O E->a.defers=[]->rG w E (vE (λj=>listed.getD j YK) 0 as_ t0) a.tmps->J E->Q .normal a w:=by
  intro listed a w E hs hr hk h1 h2 hd ht hj;have wU:=fin listed hs hr;rw[LW as_ 0 m0 (L':=λ_=>YJ) λk hk=>by simp only[We];exact wU k (by rw[<-DA.la];exact hk)]at hk
  rw[LX as_ 0 t0 (L':=λ_=>YJ) λk hk=>by simp only[We];exact wU k (by rw[<-DA.la];exact hk)]at ht
  exact hQ _ _ a w E hK hk h1 h2 hd ht hj
 intro fuel
 induction fuel with
 |zero=>
  intro listed a w E hs hu tD hk h1 h2 hd ht xY hjE;have hr:Region.ready .any ops.toArray listed=[]:=by
   unfold Region.ready;rw[List.filter_eq_nil_iff];intro j hj;have Cd:j<ops.length:=by simpa using hj
   have wU:listed.getD j YK=true:=by
    unfold unl at hu
    have UP:=Xp.1 (Nat.le_zero.1 hu);rw[List.filter_eq_nil_iff]at UP
    simpa using UP j (WC.2 Cd)
   have hjs:j<listed.size:=by rw[hs];exact Cd
   have:listed.getD j YJ=true:=by
    simp only[Xr,hjs,dif_pos]at wU⊢
    exact wU
   simp[this]
  exact⟨hr,done listed a w E hs hr hk h1 h2 hd ht hjE⟩
 |succ fuel ih=>
  intro listed a w E hs hu tD hk h1 h2 hd ht xY hjE;refine⟨λhr=>done listed a w E hs hr hk h1 h2 hd ht hjE,λi hi=>?_⟩
  obtain⟨hi1,hi2⟩:=Xg.1 hi;have u9:i<ops.length:=by simpa using hi1
  obtain⟨o,ho⟩:∃o,ops[i]?=YH o:=⟨ops[i],VU u9⟩;have yO:(ops.toArray)[i]?=YH o:=by simpa using ho
  rw[yO]at hi2
  simp only[WB,Xe,V6,Bool.not_eq_true']at hi2
  obtain⟨Zed,Ri⟩:=hi2;have PU:i<listed.size:=by rw[hs];exact u9
  have AU:listed.getD i YK=false:=by
   simp only[Xr,PU,dif_pos]at Zed⊢
   exact Zed
  have ZdW:∀e∈o.after.toList,Region.binds .any e=YJ->listed.getD e.on false=true:=by
   intro e he hb;rw[<-XL]at Ri
   have:=V2.1 Ri e he
   simpa[hb]using this
  obtain⟨ai,ei,ha,he,uL⟩:=DA.st i o ho
  let L:Nat->Bool:=λj=>listed.getD j YK
  have ZfT:=zr tD ops [] (λk=>by simp) (λj _ i h=>by simp[Xz]at h)
  -- L3 is listed behind i is apart from it;L3 is not listed ahead of it,too
  have UA:∀{k e'},gs[k]?=YH e'->gs.getD k default=e':=λh=>by simp[Xz,h]
  have Ky:∀(k:Nat) (e':LE),gs[k]?=YH e'->i<k->L k=YJ->yU ei e'=true:=by
   intro k e' hk' bU hL;have hkn:k<ops.length:=by rw[<-DA.lg];exact(VT.1 hk').1
   rcases DS DA.bW bU hkn with h|h
   ·have:=ZfT k hL i h
    simp[AU]at this
   ·rwa[UA he,UA hk']at h
  have Zb0:J4 ops (ins L i):=by
   intro j o' hj hL e he' hb;simp only[ins]at hL⊢
   split at hL
   ·rename_i FH
    subst FH;rw[ho]at hj
    cases hj
    split
    ·rfl
    ·exact ZdW e he' hb
   ·split
    ·rfl
    ·exact tD j o' hj hL e he' hb
  have ZdT:=zr Zb0 ops [] (λk=>by simp) (λj _ i h=>by simp[Xz]at h)
  have UH:∀(k:Nat) (e':LE),gs[k]?=YH e'->k<i->L k=YK->yU e' ei=true:=by
   intro k e' hk' bU hL
   rcases DS DA.bW bU u9 with h|h
   ·have:=ZdT i (by simp[ins]) k h
    simp only[ins]at this
    rw[if_neg X9]at this
    rw[hL]at this;cases this
   ·rwa[UA he,UA hk']at h
  have part:∀{x y:LE},yU x y=YJ->qP x.wr y.rd=YJ/\qP x.wr y.wr=YJ/\qP y.wr x.rd=YJ/\qP x.d.toList y.ts=YJ/\qP y.d.toList x.ts=YJ/\qP x.d.toList y.d.toList=true:=by
   intro x y h;simp only[yU,V6]at h
   exact⟨h.1.1.1.1.1,h.1.1.1.1.2,h.1.1.1.2,h.1.1.2,h.1.2,h.2⟩
  -- the ZgG own entries
  have stp:∀{k:Nat} {b:RA},as_[k]?=YH b->∃e':LE,gs[k]?=YH e'/\b.d=e'.d/\∀q∈b.u,q.1∈e'.wr:=by
   intro k b hb;have hkn:k<ops.length:=by rw[<-DA.la];exact(VT.1 hb).1
   obtain⟨a',e',g1,g2,g3⟩:=DA.st k ops[k] (VU hkn);rw[hb]at g1
   cases g1
   exact⟨e',g2,g3.ad.trans g3.gd.symm,g3.wr⟩
  have parts:∀(k:Nat) (b:RA),as_[k]?=YH b->L (0+k)≠(YL (0+k<i))->∃e':LE,gs[k]?=YH e'/\b.d=e'.d/\(∀q∈b.u,q.1∈e'.wr)/\(∀s∈e'.d.toList,s ∉ ei.ts)/\∀l∈e'.wr,l ∉ ei.rd:=by
   intro k b hb iq;rw[We]at iq
   obtain⟨e',g1,g2,g3⟩:=stp hb;refine⟨e',g1,g2,g3,?_⟩
   rcases WJ k i with h|h|h
   ·have hL:L k=false:=by
     cases hLk:L k with
     |false=>rfl
     |true=>rw[hLk]at iq;simp[h]at iq
    obtain⟨p1,p2,p3,p4,p5,p6⟩:=part (UH k e' g1 h hL);exact⟨λs hs US=>r6 p4 hs US rfl,λl hl FI=>r6 p1 hl FI rfl⟩
   ·subst h
    simp only[Nat.lt_irrefl,decide_false]at iq
    exact absurd AU iq
   ·have hL:L k=true:=by
     cases hLk:L k with
     |true=>rfl
     |false=>rw[hLk]at iq;simp[Nat.not_lt.2 (Nat.le_of_lt h)]at iq
    obtain⟨p1,p2,p3,p4,p5,p6⟩:=part (Ky k e' g1 h hL);exact⟨λs hs US=>r6 p5 hs US rfl,λl hl FI=>r6 p3 hl FI rfl⟩
  have ZdX:=uL.ZfH (vE L 0 as_ t0) (stM L 0 as_ m0) (λs hs=>EV as_ 0 t0 t0 rfl rfl λk b hb iq=>by
   obtain⟨e',g1,g2,g3,g4,g5⟩:=parts k b hb iq;rw[g2];intro wV;exact g4 s (by rw[wV];simp) hs) (λl hl=>EU as_ 0 m0 m0 rfl λk b hb iq q hq=>by
   obtain⟨e',g1,g2,g3,g4,g5⟩:=parts k b hb iq;intro hql;exact g5 q.1 (g3 q hq) (by rw[hql];exact hl))
  -- the next state
  have zV:(λj=>(listed.setIfInBounds i YJ).getD j YK)=ins L i:=by
   funext j
   simp only[ins]
   split
   ·rename_i FH;subst FH;simp[Xr,PU]
   ·rename_i FH
    rw[Ww,XH (λe=>FH e.symm),<-Ww]
  have hTi:vE (ins L i) 0 as_ t0=iZ (vE L 0 as_ t0) ai.d ai.p:=by
   have:=Ni (L:=L) as_ 0 i t0 ha (by rw[We];exact AU) λk b hb bU hL=>by
    rw[We]at hL
    obtain⟨e',g1,g2,g3⟩:=stp hb;obtain⟨p1,p2,p3,p4,p5,p6⟩:=part (Ky k e' g1 bU hL);rw[g2,uL.ad.trans uL.gd.symm]
    cases Oe:ei.d with
    |none=>exact .inl rfl
    |some x=>
     refine .inr λPT=>?_
     exact r6 p6 (x:=x) (y:=x) (by simp[Oe]) (by rw[<-PT];simp) rfl
   simpa using this
  have hMi:stM (ins L i) 0 as_ m0=app ai.u (stM L 0 as_ m0):=by
   have:=Nh (L:=L) as_ 0 i m0 ha (by rw[We];exact AU) λk b hb bU hL q hq r hr=>by
    rw[We]at hL
    obtain⟨e',g1,g2,g3⟩:=stp hb;obtain⟨p1,p2,p3,p4,p5,p6⟩:=part (Ky k e' g1 bU hL);exact r6 p2 (uL.wr q hq) (g3 r hr)
   simpa using this
  have hdd:∀x,(a.put o.dst x).defers=[]:=λx=>by cases o.dst<;>exact hd
  have bU:=ZaM u9 hs AU;unfold wpOp;rw[yO]
  rcases ZdX with⟨hw,io,hp⟩ |⟨hw,hp,hu0⟩
  ·simp only[ZaP hw ht,if_true]
   obtain⟨p,m',⟨rfl,rfl⟩,hg⟩:=CH hk Iu (λr hr It=>by
    rcases xY _ It with h|⟨j,hj,h3,h4⟩
    ·have:wd*i+r<wd*i+wd:=X9
     omega
    ·have FH:j=i:=by
      rcases WJ j i with h|h|h
      ·have:wd*j+wd<=wd*i:=by
        have:=Nat.mul_le_mul_left wd (show j+1<=i by omega)
        rw[Nat.mul_add]at this;omega
       omega
      ·exact h
      ·have:wd*i+wd<=wd*j:=by
        have:=Nat.mul_le_mul_left wd (show i+1<=j by omega)
        rw[Nat.mul_add]at this;omega
       omega
     subst FH;rw[AU]at hj;cases hj) ht hp
   refine .inl (hg _ _ λx w' E' k1 k2 k3 k4=>ih _ _ w' E' (by simpa using hs) X9 ?_ ?_ (λb hb=>k2.S b (h1 b hb)) ?_ (hdd x) ?_ (λl hl=>?_) (hJ _ _ _ _ k2 hjE))
   ·rw[zV];exact Zb0
   ·rw[zV,hMi];exact k1
   ·exact S8 hk h2 k2
   ·rw[zV,hTi,uL.ad];exact(ht.ext k2).put k3 o.dst
   ·have zk:(listed.setIfInBounds i YJ).getD i YK=true:=by simp[Xr,PU]
    have Rp:∀j,listed.getD j YK=YJ->(listed.setIfInBounds i YJ).getD j YK=true:=λj hj=>by
     have this:(listed.setIfInBounds i YJ).getD j YK=ins L i j:=congrFun zV j;rw[this];simp only[ins]
     split
     ·rfl
     ·exact hj
    rcases k4 l hl with h|h
    ·rcases xY l h with h|⟨j,hj,h3⟩
     ·exact .inl h
     ·exact .inr ⟨j,Rp j hj,h3⟩
    ·exact .inr ⟨i,zk,h⟩
  ·simp only[OV hw ht,WA,if_false]
   refine ih _ _ w E (by simpa using hs) X9 ?_ ?_ h1 h2 (hdd _) ?_ (λl hl=>?_) hjE
   ·rw[zV];exact Zb0
   ·rw[zV,hMi,hu0];exact hk
   ·rw[zV,hTi,uL.ad,hp];exact ht.put (.c .ud) o.dst
   ·have Rp:∀j,listed.getD j YK=YJ->(listed.setIfInBounds i YJ).getD j YK=true:=λj hj=>by
     have this:(listed.setIfInBounds i YJ).getD j YK=ins L i j:=congrFun zV j;rw[this];simp only[ins]
     split
     ·rfl
     ·exact hj
    rcases xY l hl with h|⟨j,hj,h3⟩
    ·exact .inl h
    ·exact .inr ⟨j,Rp j hj,h3⟩
end
end
end Go.Proofs.YtdilaemengjipaaGreatDoor
