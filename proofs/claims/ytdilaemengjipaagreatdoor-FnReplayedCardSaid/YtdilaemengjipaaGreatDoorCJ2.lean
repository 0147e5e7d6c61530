/- A part of the proof of the statement in the last file of this claim: texts on the language of the program and on its functions. No condition. -/
import Derived.Test.YtdilaemengjipaaGreatDoorCJ1
import Derived.Laws.BytesArg
set_option linter.unusedVariables false
set_option linter.unusedSimpArgs false
set_option linter.unusedSectionVars false
open Go.Value renaming int->Y1
open Go.IntKind renaming i64->Y2
open Go renaming undef->Y3
open Option renaming some->YW,none->YX
open Bool renaming true->YY,false->YZ
open Decidable renaming decide->Y0
open Option renaming map_eq_some_iff->Wb,map_some->WG,bind_some->VT,getD_some->Xj
open Option.some renaming injEq->V6
open List renaming map_eq_cons_iff->Xh,all_eq_true->V2,mem_of_getElem?->VW,getElem?_map->Wk,replicate->V8,mem_cons_of_mem->Wl,getElem?_set_ne->WA,getElem?_set_self->WM,mem_cons_self->Wo,getElem?_eq_some_iff->VU,getD->XC,getElem?_eq_getElem->VV,getElem?_of_mem->WY,pairwise_iff_getElem->Wy,length_eq_zero_iff->Xr,range'->XB,foldl_cons->Wq,foldl_nil->Wn,map_congr_left->WB,mem_append->Wi,mem_cons->V5,length_nil->V1,drop_zero->X8,mem_flatMap->WS,not_mem_nil->V4,ext_getElem?->XR,range->Ws,mem_append_left->Xi,mem_range->WH,mem_filter->Xl
open Classical renaming axiomOfChoice->Xe,choose->XG,choose_spec->W6
open Nat renaming zero_le->Ww,lt_trichotomy->WL,add_zero->W0,le_trans->Wr,zero_add->Wc
open _root_.Array renaming getElem?_eq_getElem->V7,getD->Xt,toList_append->XD,all_toList->XS,getD_eq_getD_getElem?->Wz,getElem?_setIfInBounds_ne->XN
open Bool renaming false_eq_true->WE,and_eq_true->Wd
namespace Go.Proofs.YtdilaemengjipaaGreatDoor
set_option maxRecDepth 10000
open Go.RowKit
variable {B:qt}{K:PV->Prop}{es:List (List PV)}{l:Nat}{mb:MB}{p:PV}{x:Value}{α:Type}{ω:Nat->Key->Prop}{a:Array α}
def uG:PV->Bool
 |.v _|.ud|.un|.sl _|.rp _=>YY
 |_=>YZ
def sq:PV->Bool
 |.fn _ cs=>cs.all uG
 |p=>uG p
def Jg:PV->Bool
 |.v _|.ud|.un|.ms _|.be ..=>YY
 |_=>YZ
def E1(S:Nat->Prop)(β:Nat->Option qt)(n:Nat)(ω:Nat->Key->Prop:=λ_ _=>False):Env:={ S:=S,β:=β,used:=λl=>l<n,ω:=ω}
def fa(P:Program)(f:FuncId)(args:List PV)(m0:Mem)(r:PV)(m1:Mem):Prop:=
 ∀(S:Nat->Prop) (β:Nat->Option qt) (w:World) (vs:Array Value) (ω:Nat->Key->Prop),Ok w (nC β) (E1 S β m0.length ω) w m0->vs.size=args.length->(∀(i:Nat) (p:PV),args[i]?=YW p->∃x,vs[i]?=YW x/\dG w (E1 S β m0.length ω) p x)->
  Calls P f vs w λe w'=>∃v E',e=.returned v/\Ok w (nC β) E' w' m1/\(∀b,S b->E'.S b)/\(∀b,E'.S b->S b\/w.heap.size<=b\/nC β b)/\((∀l B,l<m0.length->E'.β l=YW B->β l=YW B)/\∀b q,E'.ω b q->ω b q\/w.heap.size<=b\/nC β b)/\dG w' E' r v
theorem dG.Zh3{w:World}{S:Nat->Prop}{β:Nat->Option qt}{n:Nat}{ω ω':Nat->Key->Prop}(h:dG w (E1 S β n ω) p x):dG w (E1 S β n ω') p x:=dG.same (E:=E1 S β n ω) (E':=E1 S β n ω') (λ_ h=>h) (λ_ _ _ h=>h) (λ_ h=>h) h
abbrev CallOk(P:Program)(f:FuncId)(args:List PV)(r:PV)(m':Mem):Prop:=fa P f args [] r m'
section
variable {w:World} {O:Nat->Prop} {E:Env} {w0:World} {m:Mem} {P:Program}
def KZ(P:Program)(E:Env)(w:World)(a:Act)(o:Oper)(p:PV):Prop:=
 ∃x,(execOp a.eval o).run P w=.ok (.value x) w/\dG w E p x
def tp:List (List PV)->Option (List Int)
 | []=>YW []
 | [.v (.int .u8 n)]::rest=>(tp rest).map (n::·)
 |_=>YX
theorem Cj:∀{es:List (List PV)} {ns:List Int},tp es=YW ns->ns.length=es.length/\∀i,i<es.length->es[i]?=YW [.v (.int .u8 (ns.getD i 0))]
 | [],ns,h=>by simp only[tp]at h;grind
 |e::es,ns,h=>by
  unfold tp at h
  split at h
  ·grind
  ·rename_i n rest heq
   obtain⟨ms,hms,rfl⟩:=Wb.1 h;obtain⟨h1,h2⟩:=Cj hms
   grind
  grind
def rS(P:Program)(m:Mem)(s d:TypeId)(x:PV)(K:PV->Prop):Prop:=
 match x with
 |.ms l=>match P.underlying s,P.underlying d with
  |some (.slice e),YW .string=>P.underlying e=YW (.int .u8)/\live m l λmb=>mb.k=1/\match tp mb.es with
   |some ns=>K (.v (.string (strOfNums ns)))
   |none=>False
  |_,_=>False
 |x=>Di P s d x K
theorem GF(hk:Ok w0 O E w m){s d:TypeId}(hx:dG w E p x)(h:rS P m s d p K):∃r v,K r/\(convert s d x).run P w=.ok v w/\dG w E r v:=by
 unfold rS at h
 split at h
 ·split at h
  ·rename_i e hs hd
   obtain⟨he,h⟩:=h;obtain⟨mb,hm,hk1,h⟩:=iM h
   split at h
   ·rename_i ns hns
    obtain⟨B,hB,hb,rfl⟩:=hx.tw hk hm;obtain⟨hl,Gb⟩:=Cj hns
    cases hz:B.z with
    |true=>
     have h0:=hb.nil hz;rw[h0]at hns
     simp only[tp,V6]at hns
     subst hns;refine⟨_,.string (strOfNums []),h,?_,.c (.v _ rfl)⟩;rw[show B.sv=.slice YX 0 0 by simp[qt.sv,hz]]
     exact run_convert_bytes_nil w s e hs he 0 0 d hd
    |false=>
     obtain⟨cells,m1,m2,m3⟩:=hb.mem hz;have UM:B.k=1:=hb.k.trans hk1;refine⟨_,.string (strOfNums ns),h,?_,.c (.v _ rfl)⟩;rw[show B.sv=.slice (YW ⟨B.b,0,YX⟩) B.n B.c by simp[qt.sv,hz]]
     refine run_convert_bytes_arg w s e hs he B.b 0 B.n B.c ns (by rw[hl,hb.n]) (λi hi=>?_) d hd
     rw[hb.n]at hi
     obtain⟨y,y1,_,y3⟩:=m3 i _ 0 _ (Gb i hi) rfl;rw[UM]at y1
     rw[cell_of_row w B.b _ cells B.T (0,0) m1];rw[y3.iz.1]at y1
     omega
   grind
  grind
 ·obtain⟨r,v,h1,h2,h3⟩:=JL hx h
  grind
def qL(mx:Bool)(ps:List PV)(K:PV->Prop):Prop:=
 match ps with
 | [.v (.int k a),.v (.int k' b)]=>if mx then K (.v (.int k (if b > a then b else a)))else K (.v (.int k (if b<a then b else a)))
 |_=>False
def qe(P:Program)(o:Op)(t:List PV)(m:Mem)(K:PV->Prop):Prop:=
 match o with
 |.move x=>K (gH t x)
 |.assign x=>K (gH t x)
 |.pick c x y=>match gH t c with
  |.v (.bool b)=>K (if b then gH t x else gH t y)
  |_=>False
 |.load T a=>rX P T (KW m (gH t a)) K
 |.nilCheck x=>Ek m (gH t x) K
 |.binOp op T x y _=>JJ P op T (gH t x) (gH t y) K
 |.unOp op _ x=>pUn op (gH t x) K
 |.convert s d x=>rS P m s d (gH t x) K
 |.makeFunc fn first cs=>match fn,first.toList with
  |.func f,[]=>K (.fn f (cs.toList.map (gH t)))
  |_,_=>False
 |.slice T x lo hi mx=>match mx with
  |none=>kY P m T (gH t x) (lo.map (gH t)) (hi.map (gH t)) K
  |some _=>False
 |.fieldAddr S x f=>kX P m S (gH t x) f K
 |.field T x f=>vN P T (gH t x) f K
 |.indexAddr T x i=>cR P m T (gH t x) (gH t i) K
 |.index T x i=>sK P T (gH t x) (gH t i) K
 |.extract x i=>JM i (gH t x) K
 |.build T ps=>vM P T (ps.toList.map λq=>(q.1,gH t q.2)) K
 |.call c=>match c.callee with
  |.builtin .len=>match c.args.toList,c.argTypes.toList with
   | [x],[T]=>wO P m T (gH t x) K
   |_,_=>False
  |.builtin .min=>qL YZ (c.args.toList.map (gH t)) K
  |.builtin .max=>qL YY (c.args.toList.map (gH t)) K
  |_=>False
 |_=>False
theorem Zch{s:Sem Value}{w w':World}(h:s.run P w=.ok x w'):(do pure (Next.value (<-s)):Sem Next).run P w=.ok (.value x) w':=by
 simp_all
theorem Ew{x:α}(h:a.toList=[x]):a=#[x]:=Array.ext' Yn
theorem wa{x y:α}(h:a.toList=[x,y]):a=#[x,y]:=Array.ext' Yn
theorem Mr(hk:Ok w0 O E w m){t:List PV}{a:Act}(ht:rQ w E t a.tmps){o:Oper}(h:qe P o.op t m K):∃p,K p/\KZ P E w a o p:=by
 have ev:=yf ht;have fin:∀{s:Sem Value},(∃r v,K r/\(∀w',s.run P w'=.ok v w')/\dG w E r v)->(execOp a.eval o=do pure (Next.value (<-s)))->∃p,K p/\KZ P E w a o p:=by
  intro s ⟨r,v,hK,kv,tv⟩ he;exact⟨r,hK,v,by simp_all,tv⟩
 unfold qe at h
 split at h
 ·rename_i x ho
  exact⟨_,h,a.eval x,by simp[execOp,ho],ev x⟩
 ·rename_i x ho
  exact⟨_,h,a.eval x,by simp[execOp,ho],ev x⟩
 ·rename_i c x y ho
  split at h
  ·rename_i b hc
   have h1:=ev c;rw[hc]at h1
   have h2:=h1.iz.1;refine⟨_,h,if b then a.eval x else a.eval y,by cases b<;>simp[execOp,ho,h2,asBool],?_⟩
   grind
  grind
 ·rename_i T x ho
  cases hp:KW m (gH t x)with
  |none=>unfold rX at h;grind
  |some cs=>
   rw[hp]at h
   obtain⟨b,off,hx,hb,hc⟩:=N1 hk (ev x) hp;obtain⟨p,v,hK,kv,tv⟩:=E8 h hb hc;exact⟨p,hK,v,by simp only[execOp,ho,hx];exact Zch (by exact kv w (Up.rfl' w)),tv⟩
 ·rename_i x ho
  unfold Ek at h
  split at h
  ·rename_i l i oo hx
   obtain⟨mb,hm,hK⟩:=iM h;have h1:=ev x;rw[hx]at h1
   obtain⟨B,hB,hb,hz,e⟩:=h1.Cb hk hm;exact⟨_,hK,a.eval x,by simp[execOp,ho,e],h1⟩
  ·rename_i cs hx
   have h1:=ev x;rw[hx]at h1
   have h2:∃b off,a.eval x=.pointer (YW ⟨b,off,YX⟩):=by
    generalize a.eval x=v at h1
    cases h1.ME with
    |rp _ b off=>simp
   obtain⟨b,off,h2⟩:=h2;exact⟨_,h,a.eval x,by simp[execOp,ho,h2],h1⟩
  grind
 ·rename_i op T x y Ty ho
  exact fin (L1 (ox:=x) (oy:=y) (ev x) (ev y) h) YB
 ·rename_i op T x ho
  exact fin (PY (ev x) h) YB
 ·rename_i s d x ho
  obtain⟨r,v,hK,kv,tv⟩:=GF hk (ev x) h;exact⟨r,hK,v,by simp only[execOp];simp_all,tv⟩
 ·rename_i fn first cs ho
  split at h
  ·rename_i f hf
   have hfe:first=#[]:=Array.ext' Yn
   subst hfe;refine⟨_,h,.func (.func f) #[] (cs.map a.eval),by simp[execOp,ho,Instr.makeFunc],.fn f _ _ Yq λj p x hp hx=>?_⟩
   grind
  grind
 ·rename_i T x lo hi mx ho
  split at h
  ·refine fin (GJ hk (Bo:=lo.map a.eval) (Bn:=hi.map a.eval) (ev x) ?_ ?_ ?_ ?_ h) (by simp only[execOp,ho,Option.map_none])
   ·cases lo with
    |none=>grind
    |some z=>grind
   ·simp
   ·cases hi with
    |none=>grind
    |some z=>grind
   simp
  grind
 ·rename_i S x f ho
  exact fin (Ac hk (ev x) h) YB
 ·rename_i T x f ho
  exact fin (GG (ev x) h) YB
 ·rename_i T x i ho
  exact fin (Ae hk (ev x) (ev i) h) YB
 ·rename_i T x i ho
  exact fin (GH (ev x) (ev i) h) YB
 ·rename_i x i ho
  exact fin (L3 (ev x) h) YB
 ·rename_i T ps ho
  refine fin (GC (vs:=ps.map fun(i,x)=>(i,a.eval x)) Yq (λj i p hj=>?_) h) YB
  grind
 ·rename_i c ho
  split at h
  ·rename_i hc
   split at h
   ·rename_i x T hx hT
    obtain⟨callee,args,argTypes⟩:=c;have ha:=Ew hx;have hTs:=Ew hT;subst hc ha hTs;obtain⟨r,v,hK,kv,tv⟩:=L5 (ty:=o.type) hk (ev x) h;exact⟨r,hK,v,by simp[execOp,ho,resolve,invoke,builtin,kv],tv⟩
   grind
  ·rename_i hc
   unfold qL at h
   split at h
   ·rename_i k a1 k' b1 hargs
    obtain⟨callee,args,argTypes⟩:=c;subst hc;obtain⟨x,l,e1,hx,e2⟩:=Xh.1 hargs;obtain⟨y,l2,e3,hy,e4⟩:=Xh.1 e2;rw[List.map_eq_nil_iff.1 e4]at e3
    rw[e3]at e1
    have ha:=wa e1;subst ha;have vx:=ev x;rw[hx]at vx
    have vy:=ev y;rw[hy]at vy
    have vx:=vx.iz.1;have vy:=vy.iz.1;exact⟨_,h,.int k (if b1<a1 then b1 else a1),by simp[execOp,ho,resolve,invoke,builtin,vx,vy,run_min_int2],.c (.v _ rfl)⟩
   grind
  ·rename_i hc
   unfold qL at h
   split at h
   ·rename_i k a1 k' b1 hargs
    obtain⟨callee,args,argTypes⟩:=c;subst hc;obtain⟨x,l,e1,hx,e2⟩:=Xh.1 hargs;obtain⟨y,l2,e3,hy,e4⟩:=Xh.1 e2;rw[List.map_eq_nil_iff.1 e4]at e3
    rw[e3]at e1
    have ha:=wa e1;subst ha;have vx:=ev x;rw[hx]at vx
    have vy:=ev y;rw[hy]at vy
    have vx:=vx.iz.1;have vy:=vy.iz.1;exact⟨_,h,.int k (if b1 > a1 then b1 else a1),by simp[execOp,ho,resolve,invoke,builtin,vx,vy,run_max_int2],.c (.v _ rfl)⟩
   grind
  grind
 grind
def yU(m:Mem)(p:PV)(K:PV->Prop):Prop:=
 match p with
 |.ms l=>live m l λmb=>K (@ite PV (∀cs∈mb.es,∀q∈cs,sq q=YY) (Classical.propDecidable _) (.sl mb.es) .un)
 |.ss l a b=>live m l λmb=>(∀cs∈mb.es,∀q∈cs,sq q=YY)/\K (.sl ((mb.es.drop a).take (b-a)))
 |.v x=>K (.v x)
 |.sl es=>K (.sl es)
 |.rp cs=>K (.rp cs)
 |.un=>K .un
 |.ud=>K .ud
 |_=>False
def DJ(m:Mem):List PV->(List PV->Prop)->Prop
 | [],K=>K []
 |c::cs,K=>yU m c λc'=>DJ m cs λqy=>K (c'::qy)
def DK(m:Mem)(p:PV)(K:PV->Prop):Prop:=
 match p with
 |.ag cs=>DJ m cs λqy=>K (.ag qy)
 |p=>yU m p K
def yT(m:Mem):List PV->(List PV->Prop)->Prop
 | [],K=>K []
 |c::cs,K=>DK m c λc'=>yT m cs λqy=>K (c'::qy)
def Rc(E:Env)(b:Nat):Prop:=E.S b\/nC E.β b
theorem eI.all{S S':Nat->Prop}(h:eI w S p x)(hS:∀b,S b->S' b):eI w S' p x:=h.ext hS λ_ _ _=>rfl
theorem dG.Zh2(h:dG w E p x)(hc:uG p=YY):eI w E.S p x:=by
 cases h with
 |c h=>exact h
 |_=>simp[uG]at hc
theorem dG.toC(h:dG w E p x)(hc:sq p=YY):eI w E.S p x:=by
 cases h with
 |c h=>exact h
 |fn f cs vs hl hr=>
  simp only[sq,V2]at hc
  exact .fn f cs vs hl λj p x hp hx=>(hr j p x hp hx).Zh2 (hc p (VW hp))
 |_=>simp[sq,uG]at hc
theorem DD(hB:E.β l=YW B)(hb:gJ w E mb B)(uo:∀cs∈mb.es,∀q∈cs,sq q=YY){S:Nat->Prop}(hS:∀b,E.S b->S b)(hSB:B.z=YZ->S B.b){a b:Nat}(CK:a<=b)(Sf:b<=B.n){A:Option Addr}{c:Nat}
 (hA:a<b->B.z=YZ/\A=YW ⟨B.b,a*B.k,YX⟩/\b-a<=c/\c<=maxLen):eI w S (.sl ((mb.es.drop a).take (b-a))) (.slice A (b-a) c):=by
 have hel:((mb.es.drop a).take (b-a)).length=b-a:=by rw[List.length_take,List.length_drop,<-hb.n];omega
 rcases Nat.lt_or_ge a b with bX|ze
 ·obtain⟨hz,rfl,CL,Hp⟩:=hA bX
  obtain⟨cells,m1,m2,m3⟩:=hb.mem hz;have get:∀{i:Nat} {cs:List PV},((mb.es.drop a).take (b-a))[i]?=YW cs->mb.es[a+i]?=YW cs:=by
   grind
  have hex:∀ij:Nat×Nat,∃u:Value,∀cs p,mb.es[a+ij.1]?=YW cs->cs[ij.2]?=YW p->cells[(a+ij.1)*B.k+ij.2]?=YW u/\u.oneCell'=YY/\eI w S p u:=by
   intro⟨i,j⟩
   cases hi:mb.es[a+i]? with
   |none=>simp
   |some cs=>
    cases hj:cs[j]? with
    |none=>exact⟨Y3,λqy p h h'=>by grind⟩
    |some p=>
     obtain⟨u,u1,u2,u3⟩:=m3 _ cs j p hi hj;refine⟨u,λqy p' h h'=>?_⟩
     simp at h
     subst h;simp only[hj,V6]at h'
     subst h';exact⟨u1,u2,(u3.toC (uo cs (VW hi) p (VW hj))).all hS⟩
  obtain⟨f,hf⟩:=Xe hex;have key:=eI.sl (w:=w) (S:=S) ((mb.es.drop a).take (b-a)) B.b (a*B.k) B.k c (λi j=>f (i,j)) (hSB hz) hb.pos Yn Hp (λi cs hi=>hb.es _ cs (get hi))
   (λi cs j p hi hj=>by
    have:=(hf (i,j) cs p (get hi) hj).1;rw[cell_of_row w B.b _ cells B.T (0,0) m1]
    grind) (λi cs j p hi hj=>(hf (i,j) cs p (get hi) hj).2.1) λi cs j p hi hj=>(hf (i,j) cs p (get hi) hj).2.2
  grind
 ·have hba:b-a=0:=Yn
  rw[hba];exact .nil _ _
theorem ZbD(hb:gJ w E mb B):∃A c,B.sv=.slice A B.n c/\(0<B.n->B.z=YZ/\A=YW ⟨B.b,0,YX⟩/\B.n<=c/\c<=maxLen):=by
 cases hz:B.z with
 |true=>exact⟨YX,0,by simp[qt.sv,hz,hb.n,hb.nil hz],λh=>by rw[hb.n,hb.nil hz]at h;grind⟩
 |false=>exact⟨_,_,by simp[qt.sv,hz],λ_=>⟨rfl,rfl,hb.nc,hb.cm⟩⟩
theorem N3(hB:E.β l=YW B)(hb:gJ w E mb B)(uo:∀cs∈mb.es,∀q∈cs,sq q=YY){S:Nat->Prop}(hS:∀b,E.S b->S b)(hSB:B.z=YZ->S B.b):eI w S (.sl mb.es) B.sv:=by
 obtain⟨A,c,Pn,hA⟩:=ZbD hb;have:=DD hB hb uo hS hSB (a:=0) (b:=B.n) (Ww _) (Nat.le_refl _) (A:=A) (c:=c) Yr;rw[Pn]
 simpa[hb.n]using this
theorem Ft(hk:Ok w0 O E w m)(hx:dG w E p x)(h:yU m p K):∃q,K q/\eI w (Rc E) q x/\sq q=true:=by
 unfold yU at h
 split at h
 ·rename_i l
  obtain⟨mb,hm,hK⟩:=iM h
  by_cases uo:∀cs∈mb.es,∀q∈cs,sq q=YY
  ·rw[if_pos uo]at hK
   obtain⟨B,hB,hb,rfl⟩:=hx.tw hk hm;exact⟨_,hK,N3 hB hb uo (λb hb=>.inl hb) λhz=>.inr ⟨l,B,hB,hz,rfl⟩,rfl⟩
  ·rw[if_neg uo]at hK
   exact⟨_,hK,.un x,rfl⟩
 ·rename_i l a b
  obtain⟨mb,hm,uo,hK⟩:=iM h;obtain⟨B,hB,hb,A,c,rfl,CK,Sf,hA⟩:=hx.An hk hm;exact⟨_,hK,DD hB hb uo (λb hb=>.inl hb) (λhz=>.inr ⟨l,B,hB,hz,rfl⟩) CK Sf hA,rfl⟩
 ·exact⟨_,h,(hx.toC rfl).all λb hb=>.inl hb,rfl⟩
 ·exact⟨_,h,(hx.toC rfl).all λb hb=>.inl hb,rfl⟩
 ·exact⟨_,h,(hx.toC rfl).all λb hb=>.inl hb,rfl⟩
 ·exact⟨_,h,(hx.toC rfl).all λb hb=>.inl hb,rfl⟩
 ·exact⟨_,h,(hx.toC rfl).all λb hb=>.inl hb,rfl⟩
 grind
def Zeh(w:World)(S:Nat->Prop)(q:PV)(x:Value):Prop:=∀β n ω,dG w (E1 S β n ω) q x
theorem Fu(hk:Ok w0 O E w m):∀(cs:List PV) (vs:List Value) (K:List PV->Prop),vs.length=cs.length->(∀(j:Nat) (p:PV) (x:Value),cs[j]?=YW p->vs[j]?=YW x->dG w E p x)->DJ m cs K->
 ∃ds,K ds/\ds.length=cs.length/\∀(j:Nat) (q:PV) (x:Value),ds[j]?=YW q->vs[j]?=YW x->eI w (Rc E) q x
 | [],[],K,_,_,h=>⟨[],h,rfl,by simp⟩
 | [],_::_,_,hl,_,_=>by grind
 |_::_,[],_,hl,_,_=>by grind
 |c::cs,v::vs,K,hl,hr,h=>by
  obtain⟨q,hK,hq,_⟩:=Ft hk (hr 0 c v rfl rfl) h;obtain⟨ds,hK',hdl,hd⟩:=Fu hk cs vs _ Yr (λj p x hp hx=>hr (j+1) p x Yr Yr) hK
  grind
theorem QF(hk:Ok w0 O E w m)(hx:dG w E p x)(h:DK m p K):∃q,K q/\Zeh w (Rc E) q x:=by
 unfold DK at h
 split at h
 ·rename_i cs
  obtain⟨vs,rfl,hl,h1,hr⟩:=hx.qx;obtain⟨ds,hK,hdl,hd⟩:=Fu hk cs vs.toList _ Yn (λj p x hp hx=>hr j p x hp Yr) h
  exact⟨_,hK,λβ n ω=>.ag ds vs Yn h1 λj p x hp hx=>.c (hd j p x hp Yr)⟩
 ·obtain⟨q,hK,hq,_⟩:=Ft hk hx h
  exact⟨q,hK,λβ n ω=>.c hq⟩
theorem Fs(hk:Ok w0 O E w m):∀(cs:List PV) (vs:List Value) (K:List PV->Prop),vs.length=cs.length->(∀(j:Nat) (p:PV) (x:Value),cs[j]?=YW p->vs[j]?=YW x->dG w E p x)->yT m cs K->
 ∃ds,K ds/\ds.length=cs.length/\∀(j:Nat) (q:PV) (x:Value),ds[j]?=YW q->vs[j]?=YW x->Zeh w (Rc E) q x
 | [],[],K,_,_,h=>⟨[],h,rfl,by simp⟩
 | [],_::_,_,hl,_,_=>by grind
 |_::_,[],_,hl,_,_=>by grind
 |c::cs,v::vs,K,hl,hr,h=>by
  obtain⟨q,hK,hq⟩:=QF hk (hr 0 c v rfl rfl) h;obtain⟨ds,hK',hdl,hd⟩:=Fs hk cs vs _ Yr (λj p x hp hx=>hr (j+1) p x Yr Yr) hK
  grind
end
def u6(σ:Nat->Nat):PV->PV
 |.ms l=>.ms (σ l)
 |.ss l a b=>.ss (σ l) a b
 |.be l i o=>.be (σ l) i o
 |p=>p
def sa(σ:Nat->Nat):PV->PV
 |.fn f cs=>.fn f (cs.map (u6 σ))
 |p=>u6 σ p
def yM(σ:Nat->Nat):PV->PV
 |.ag cs=>.ag (cs.map (sa σ))
 |p=>sa σ p
def yN(σ:Nat->Nat):PV->PV
 |.tu vs=>.tu (vs.map (yM σ))
 |p=>yM σ p
def rY(σ:Nat->Nat)(es:List (List PV)):List (List PV):=es.map (·.map (sa σ))
def nb(σ:Nat->Nat)(mb:MB):MB:=⟨mb.T,mb.k,rY σ mb.es⟩
def CX:PV->Bool
 |.ag _|.tu _|.fn _ _=>YZ
 |_=>YY
def eK(flat:Bool):PV->Prop
 |.fn _ cs=>flat=YZ/\∀c∈cs,CX c=YY
 |p=>flat=YY->Jg p=YY
def ta(flat:Bool):PV->Prop
 |.ag cs=>∀c∈cs,eK flat c
 |.tu _=>False
 |p=>eK flat p
def qR(flat:Bool):PV->Prop
 |.tu vs=>∀v∈vs,ta flat v
 |p=>ta flat p
theorem Zbc{σ:Nat->Nat}(h:sa σ p=.sl es):p=.sl es:=by
 unfold sa at h
 split at h
 ·cases h
 ·cases p<;>simp[u6]at h⊢<;>exact h
theorem eI.flat{w:World}{S S':Nat->Prop}(hF:Jg p=YY)(h:eI w S p x):eI w S' p x:=by
 cases h with
 |v x h=>exact .v x h
 |ud=>exact .ud
 |un x=>exact .un x
 |_=>simp[Jg]at hF
def vH:PV->Bool
 |.sl es=>es.all λcs=>cs.all Jg
 |_=>YZ
theorem eI.key{w:World}{S S':Nat->Prop}(hF:vH (.sl es)=YY)(hb:es≠[]->∀b off n c,x=.slice (YW ⟨b,off,YX⟩) n c->S' b)(h:eI w S (.sl es) x):eI w S' (.sl es) x:=by
 cases h with
 |nil A c=>exact .nil A c
 |sl es b off k c u hS hk hn hm xh hc h1 hr=>
  by_cases gZ:es=[]
  ·subst gZ;exact .nil _ _
  ·refine .sl es b off k c u (hb gZ b off _ c rfl) hk hn hm xh hc h1 λi cs j p hi hj=>(hr i cs j p hi hj).flat ?_
   exact V2.1 (V2.1 hF cs (VW hi)) p (VW hj)
section
variable {w':World} {E' E2:Env} {σ:Nat->Nat} {flat:Bool}
theorem J8(xN:∀l B,E'.used l->E2.β (σ l)=YW B->E'.β l=YW B)(hu:∀l,E'.used l->E2.used (σ l))(hS:∀p x,(flat=YY->Jg p=YY)->eI w' E'.S p x->eI w' E2.S p x)
 (h:dG w' E' p x) (hp:CX p=YY) (hG:flat=YY->Jg p=YY):dG w' E2 (u6 σ p) x:=by
 cases h with
 |c h=>
  have:u6 σ p=p:=by cases h<;>rfl
  rw[this];exact .c (hS p x hG h)
 |ms l _ hl h1 h=>exact .ms _ _ (hu l hl) h1 λB hB=>h B (xN l B hl hB)
 |ss l a b _ hl h1 h=>exact .ss _ _ _ _ (hu l hl) h1 λB hB=>h B (xN l B hl hB)
 |be l i o _ hl h1 h=>exact .be _ _ _ _ (hu l hl) h1 λB hB=>h B (xN l B hl hB)
 |ag cs=>simp[CX]at hp
 |tu cs=>simp[CX]at hp
 |fn f cs=>simp[CX]at hp
theorem DA(xN:∀l B,E'.used l->E2.β (σ l)=YW B->E'.β l=YW B)(hu:∀l,E'.used l->E2.used (σ l))(hS:∀p x,(flat=YY->Jg p=YY)->eI w' E'.S p x->eI w' E2.S p x)
 (h:dG w' E' p x) (hp:eK flat p) (hna:∀cs,p≠.ag cs) (hnt:∀cs,p≠.tu cs):dG w' E2 (sa σ p) x:=by
 cases p with
 |fn f cs=>
  obtain⟨Lx,so⟩:=hp;obtain⟨vs,rfl,hl,hr⟩:=h.F6;refine .fn f _ vs Yr λj q x hq hx=>?_
  rw[Wk]at hq
  cases hc:cs[j]? with
  |none=>grind
  |some c=>
   simp only[hc,WG,V6]at hq
   subst hq;exact J8 xN hu hS (hr j c x hc hx) (so c (VW hc)) (λh=>by grind)
 |ag cs=>grind
 |tu cs=>grind
 |_=>exact J8 xN hu hS h rfl hp
theorem J9(xN:∀l B,E'.used l->E2.β (σ l)=YW B->E'.β l=YW B)(hu:∀l,E'.used l->E2.used (σ l))(hS:∀p x,(flat=YY->Jg p=YY)->eI w' E'.S p x->eI w' E2.S p x)
 (h:dG w' E' p x) (hp:ta flat p):dG w' E2 (yM σ p) x:=by
 cases p with
 |ag cs=>
  obtain⟨vs,rfl,hl,h1,hr⟩:=h.qx;refine .ag _ vs Yr h1 λj q x hq hx=>?_
  rw[Wk]at hq
  cases hc:cs[j]? with
  |none=>grind
  |some c=>
   simp only[hc,WG,V6]at hq
   subst hq;have hrc:=hr j c x hc hx;have xj:=h1 j x hx;refine DA xN hu hS hrc (hp c (VW hc)) (λcs e=>?_) (λcs e=>?_)
   ·subst e;obtain⟨_,rfl,_⟩:=hrc.qx;simp[Value.oneCell']at xj
   ·subst e;obtain⟨_,rfl,_⟩:=hrc.xI;simp[Value.oneCell']at xj
 |tu vs=>exact hp.elim
 |_=>exact DA xN hu hS h hp Yq Yq
theorem TX(xN:∀l B,E'.used l->E2.β (σ l)=YW B->E'.β l=YW B)(hu:∀l,E'.used l->E2.used (σ l))(hS:∀p x,(flat=YY->Jg p=YY)->eI w' E'.S p x->eI w' E2.S p x)
 (h:dG w' E' p x) (hp:qR flat p):dG w' E2 (yN σ p) x:=by
 cases p with
 |tu ps=>
  obtain⟨vs,rfl,hl,hr⟩:=h.xI;refine .tu _ vs Yr λj q x hq hx=>?_
  rw[Wk]at hq
  cases hc:ps[j]? with
  |none=>grind
  |some c=>
   simp only[hc,WG,V6]at hq
   subst hq;exact J9 xN hu hS (hr j c x hc hx) (hp c (VW hc))
 |_=>exact J9 xN hu hS h hp
end
/-! The other aK round: MT a callee is handed. -/
def Bf(n:Nat):PV->Bool
 |.ms l=>Y0 (l<n)
 |.ss l _ _=>Y0 (l<n)
 |.be l _ _=>Y0 (l<n)
 |_=>YY
def xp(n:Nat):PV->Bool
 |.fn _ cs=>cs.all (Bf n)
 |p=>Bf n p
def Gp(n:Nat):PV->Bool
 |.ag cs=>cs.all (xp n)
 |p=>xp n p
section
variable {w:World} {E:Env} {S:Nat->Prop} {β:Nat->Option qt} {n:Nat} {σ:Nat->Nat}
theorem Oq(xN:∀l B,β l=YW B->E.β (σ l)=YW B)(hS:∀b,E.S b->S b)(h:dG w E (u6 σ p) x)(hp:CX p=YY)(CO:Bf n p=YY):dG w (E1 S β n ω) p x:=by
 cases p with
 |ms l=>
  cases h with
  |c h=>cases h
  |ms _ _ hl h1 h=>exact .ms _ _ (show _<n by simpa[Bf]using CO) h1 λB hB=>h B (xN l B hB)
 |ss l a b=>
  cases h with
  |c h=>cases h
  |ss _ _ _ _ hl h1 h=>exact .ss _ _ _ _ (show _<n by simpa[Bf]using CO) h1 λB hB=>h B (xN l B hB)
 |be l i o=>
  cases h with
  |c h=>cases h
  |be _ _ _ _ hl h1 h=>exact .be _ _ _ _ (show _<n by simpa[Bf]using CO) h1 λB hB=>h B (xN l B hB)
 |ag cs=>simp[CX]at hp
 |tu cs=>simp[CX]at hp
 |fn f cs=>simp[CX]at hp
 |v y=>cases h with|c h=>exact .c (h.all hS)
 |ud=>cases h with|c h=>exact .c (h.all hS)
 |un=>cases h with|c h=>exact .c (h.all hS)
 |sl es=>cases h with|c h=>exact .c (h.all hS)
 |rp cs=>cases h with|c h=>exact .c (h.all hS)
theorem Hh(xN:∀l B,β l=YW B->E.β (σ l)=YW B)(hS:∀b,E.S b->S b)(h:dG w E (sa σ p) x)(hp:eK YZ p)(CO:xp n p=YY)(hna:∀cs,p≠.ag cs)(hnt:∀cs,p≠.tu cs):dG w (E1 S β n ω) p x:=by
 cases p with
 |fn f cs=>
  obtain⟨vs,rfl,hl,hr⟩:=h.F6;simp only[xp,V2]at CO
  refine .fn f _ vs Yr λj q x hq hx=>?_
  exact Oq xN hS (hr j (u6 σ q) x Yr hx) (hp.2 q (VW hq)) (CO q (VW hq))
 |ag cs=>grind
 |tu cs=>grind
 |_=>exact Oq xN hS h rfl CO
theorem ZbN(xN:∀l B,β l=YW B->E.β (σ l)=YW B)(hS:∀b,E.S b->S b)(h:dG w E (yM σ p) x)(hp:ta YZ p)(CO:Gp n p=YY):dG w (E1 S β n ω) p x:=by
 cases p with
 |ag cs=>
  obtain⟨vs,rfl,hl,h1,hr⟩:=h.qx;simp only[Gp,V2]at CO
  refine .ag _ vs Yr h1 λj q x hq hx=>?_
  have hrc:=hr j (sa σ q) x Yr hx;have xj:=h1 j x hx;refine Hh xN hS hrc (hp q (VW hq)) (CO q (VW hq)) (λcs e=>?_) (λcs e=>?_)
  ·subst e;obtain⟨_,rfl,_⟩:=dG.qx hrc;simp[Value.oneCell']at xj
  ·subst e;obtain⟨_,rfl,_⟩:=dG.xI hrc;simp[Value.oneCell']at xj
 |tu vs=>exact hp.elim
 |_=>exact Hh xN hS h hp CO Yq Yq
end
def sig(ρ:List Nat)(ν:Nat)(i:Nat):Nat:=if i<ρ.length then ρ.getD i 0 else ν+(i-ρ.length)
def pq(σ:Nat->Nat)(m:Mem)(n:Nat):List Nat->Mem->Prop
 | [],[]=>True
 |l::ρ,YW KV::m0=>m[l]?=YW (YW (nb σ KV))/\(∀cs∈KV.es,∀p∈cs,eK YZ p/\xp n p=YY)/\pq σ m n ρ m0
 |_,_=>False
def oU(σ:Nat->Nat):List Nat->Mem->Mem->Mem
 |l::ρ,r::m1,m=>oU σ ρ m1 (m.set l (r.map (nb σ)))
 |_,_,m=>m
def jQ(σ:Nat->Nat):Nat->Mem->Mem->Mem
 |_,[],m=>m
 |ν,YW mb::m1,m=>jQ σ (ν+1) m1 (oS m ν (nb σ mb))
 |ν,YX::m1,m=>jQ σ (ν+1) m1 ((m++V8 (ν+1-m.length) YX).set ν YX)
theorem sH{σ:Nat->Nat}{m:Mem}{n:Nat}:∀{ρ:List Nat} {m0:Mem},pq σ m n ρ m0->ρ.length=m0.length/\∀(i l:Nat),ρ[i]?=YW l->∃KV:MB,m0[i]?=YW (YW KV)/\m[l]?=YW (YW (nb σ KV))/\∀cs∈KV.es,∀p∈cs,eK YZ p/\xp n p=YY
 | [],[],_=>⟨rfl,by simp⟩
 | [],_::_,h=>h.elim
 |_::_,[],h=>h.elim
 |l::ρ,YX::m0,h=>h.elim
 |l::ρ,YW KV::m0,h=>by
  obtain⟨h1,h2⟩:=sH h.2.2;refine⟨by grind,λi l' hi=>?_⟩
  cases i with
  |zero=>
   obtain rfl:l=l':=by grind
   exact⟨KV,rfl,h.1,h.2.1⟩
  |succ i=>grind
theorem Fi{σ:Nat->Nat}:∀(ρ:List Nat) (m1 m:Mem),(oU σ ρ m1 m).length=m.length
 | [],_,_=>by rfl
 |_::_,[],_=>by rfl
 |l::ρ,r::m1,m=>by unfold oU;rw[Fi];simp
theorem Dx{σ:Nat->Nat}:∀(ρ:List Nat) (m1 m:Mem) (l:Nat),l ∉ ρ->(oU σ ρ m1 m)[l]?=m[l]?
 | [],_,_,_,_=>by rfl
 |_::_,[],_,_,_=>by rfl
 |k::ρ,r::m1,m,l,hl=>by
  unfold oU;rw[Dx ρ m1 _ l (λh=>hl (Wl _ h)),WA Yr]
theorem Fh{σ:Nat->Nat}:∀(ρ:List Nat) (m1 m:Mem),ρ.Nodup->(∀l∈ρ,l<m.length)->ρ.length<=m1.length->∀(i l:Nat),ρ[i]?=YW l->(oU σ ρ m1 m)[l]?=(m1[i]?).map (Option.map (nb σ))
 | [],_,_,_,_,_,_,_,h=>by grind
 |_::_,[],_,_,_,hl,_,_,_=>by grind
 |k::ρ,r::m1,m,hn,bX,hl,i,l,hi=>by
  unfold oU;rw[List.nodup_cons]at hn
  cases i with
  |zero=>
   obtain rfl:k=l:=by grind
   rw[Dx ρ m1 _ k hn.1,WM (bX k Wo)];rfl
  |succ i=>
   rw[Fh ρ m1 _ hn.2 (λl' Nv=>by grind) Yr i l Yr]
   simp
theorem xA{σ:Nat->Nat}:∀(ν:Nat) (m1 m:Mem),m.length<=(jQ σ ν m1 m).length/\∀i,i<m1.length->ν+i<(jQ σ ν m1 m).length
 |ν,[],m=>by unfold jQ;simp
 |ν,YW mb::m1,m=>by
  unfold jQ;obtain⟨h1,h2⟩:=xA (σ:=σ) (ν+1) m1 (oS m ν (nb σ mb));rw[Dc]at h1
  refine⟨Yn,λi hi=>?_⟩
  cases i with
  |zero=>omega
  |succ i=>have:=h2 i Yr;omega
 |ν,YX::m1,m=>by
  unfold jQ;obtain⟨h1,h2⟩:=xA (σ:=σ) (ν+1) m1 ((m++V8 (ν+1-m.length) YX).set ν YX);simp at h1
  refine⟨Yn,λi hi=>?_⟩
  cases i with
  |zero=>omega
  |succ i=>have:=h2 i Yr;omega
theorem xz{σ:Nat->Nat}:∀(ν:Nat) (m1 m:Mem) (l:Nat) (mb:MB),(jQ σ ν m1 m)[l]?=YW (YW mb)->(∃i PL,l=ν+i/\m1[i]?=YW (YW PL)/\mb=nb σ PL)\/m[l]?=YW (YW mb)
 |ν,[],m,l,mb,h=>by unfold jQ at h;grind
 |ν,YW PL::m1,m,l,mb,h=>by
  rcases xz (σ:=σ) (ν+1) m1 _ l mb h with⟨i,mb2,rfl,h1,h2⟩ |h'
  ·grind
  ·by_cases hl:l=ν
   ·subst hl
    rw[tX]at h'
    grind
   ·exact .inr ((yE hl).1 h')
 |ν,YX::m1,m,l,mb,h=>by
  rcases xz (σ:=σ) (ν+1) m1 _ l mb h with⟨i,mb2,rfl,h1,h2⟩ |h'
  all_goals grind
def td(m:Mem)(l:Nat):Bool:=match m[l]? with
 |some (YW _)=>YY
 |_=>YZ
theorem tU{m:Mem}:td m l=YY↔∃mb,m[l]?=YW (YW mb):=by
 unfold td
 grind
theorem gJ.renamed{w':World}{E' E2:Env}{σ:Nat->Nat}{flat:Bool}(h:gJ w' E' mb B)(hg:∀cs∈mb.es,∀p∈cs,eK flat p\/mb.T.kd.isSome=YY/\vH p=YY)(xN:∀l B,E'.used l->E2.β (σ l)=YW B->E'.β l=YW B)(hu:∀l,E'.used l->E2.used (σ l))
 (hS:∀p x,(flat=YY->Jg p=YY)->eI w' E'.S p x->eI w' E2.S p x) (hω:∀b q,E'.ω b q->E2.ω b q/\E2.S b):gJ w' E2 (nb σ mb) B:=by
 refine⟨h.k,by rw[h.n];simp[nb,rY],h.T,h.pos,h.nc,h.cm,λi cs hi=>?_,λhz=>by simp[nb,rY,h.nil hz],λhz=>?_,λT hT hz i cs j es x hi hj gZ hc=>?_⟩
 ·simp only[nb,rY,Wk]at hi
  obtain⟨cs0,h0,rfl⟩:=Wb.1 hi;rw[List.length_map];exact h.es i cs0 h0
 ·obtain⟨cells,m1,m2,m3⟩:=h.mem hz
  refine⟨cells,m1,m2,λi cs j p hi hj=>?_⟩
  simp only[nb,rY,Wk]at hi
  obtain⟨cs0,h0,rfl⟩:=Wb.1 hi;rw[Wk]at hj
  obtain⟨p0,hp0,rfl⟩:=Wb.1 hj;obtain⟨x,x1,x2,x3⟩:=m3 i cs0 j p0 h0 hp0
  rcases hg cs0 (VW h0) p0 (VW hp0)with hgg|⟨hgk,hgp⟩
  rotate_left
  ·refine⟨x,x1,x2,?_⟩
   cases p0 with
   |sl es=>
    cases x3 with
    |c hc=>
     refine .c (hc.key hgp λgZ b off n c e=>?_)
     obtain⟨T,hT⟩:=Option.isSome_iff_exists.1 hgk;obtain⟨b',c',k',Vn,a1,a2,a3⟩:=h.key T hT hz i cs0 j es x h0 hp0 gZ (by simp[World.cell?,m1,x1])
     grind
   |_=>simp[vH]at hgp
  refine⟨x,x1,x2,DA xN hu hS x3 hgg (λcs e=>?_) (λcs e=>?_)⟩
  ·subst e;obtain⟨_,rfl,_⟩:=x3.qx;simp[Value.oneCell']at x2
  ·subst e;obtain⟨_,rfl,_⟩:=x3.xI;simp[Value.oneCell']at x2
 ·simp only[nb,rY,Wk]at hi
  obtain⟨cs0,h0,rfl⟩:=Wb.1 hi;rw[Wk]at hj
  obtain⟨p0,hp0,he⟩:=Wb.1 hj;obtain rfl:=Zbc he;obtain⟨b,c,k,Vn,a1,a2,a3⟩:=h.key T hT hz i cs0 j es x h0 hp0 gZ hc;exact⟨b,c,k,Vn,a1,(hω b _ a2).1,a3⟩
section
variable {w:World} {O:Nat->Prop} {E:Env} {w0:World} {m:Mem} {P:Program}
open Classical in
theorem H8(hk:Ok w0 O E w m){ν:Nat}{f:FuncId}{qs:List PV}{vs:Array Value}{ρ:List Nat}{m0 m1:Mem}{r:PV}{flat:Bool}{S:Nat->Prop}(hc:fa P f qs m0 r m1)(wq:∀i,i<m1.length-m0.length->¬E.used (ν+i))(hle:m0.length<=m1.length)
 (hl:vs.size=qs.length) (hargs:∀β:Nat->Option qt,(∀l B,β l=YW B->E.β (sig ρ ν l)=YW B)->∀(i:Nat) (p:PV),qs[i]?=YW p->∃x,vs[i]?=YW x/\dG w (E1 S β m0.length E.ω) p x)
 (hn:ρ.Nodup) (vz:pq (sig ρ ν) m m0.length ρ m0) (hS1:∀b,E.S b->S b) (IQ:flat=YZ->S=E.S) (Lx:flat=YY->m0=[]) (Zg2:∀b,S b->b<w.heap.size)
 (I2:∀mb,YW mb∈m1->∀cs∈mb.es,∀p∈cs,eK flat p\/mb.T.kd.isSome=YY/\vH p=YY) (hr:qR flat r):
 Calls P f vs w λe w'=>∃v E2,e=.returned v/\Ok w0 O E2 w' (jQ (sig ρ ν) ν (m1.drop ρ.length) (oU (sig ρ ν) ρ m1 m))/\Ext w w' E E2/\dG w' E2 (yN (sig ρ ν) r) v/\∀l,E2.used l->E.used l\/(ν<=l/\l<ν+(m1.length-m0.length)):=by
 obtain⟨SK,hρ⟩:=sH vz;have G8:∀{i l},ρ[i]?=YW l->sig ρ ν i=l:=λ{i l} h=>by
  have hi:i<ρ.length:=(VU.1 h).1;unfold sig XC;rw[if_pos hi,h];rfl
 have qO:∀{i},i<ρ.length->∃l,ρ[i]?=YW l/\sig ρ ν i=l:=λ{i} hi=>⟨ρ[i],VV hi,G8 (VV hi)⟩
 have Am:∀{i},¬i<ρ.length->sig ρ ν i=ν+(i-ρ.length):=λ{i} hi=>by simp[sig,hi]
 have yo:∀{i},i<m1.length->E.used (sig ρ ν i)->i<ρ.length:=λ{i} hi hu=>by
  by_cases h:i<ρ.length
  ·exact h
  ·rw[Am h]at hu
   exact absurd hu (wq _ Yn)
 have Zad:∀l∈ρ,E.used l:=λl hl=>by
  obtain⟨i,hi⟩:=WY hl;obtain⟨KV,_,h2,_⟩:=hρ i l hi;exact mi hk h2
 have G7:∀{i j},i<m1.length->j<m1.length->sig ρ ν i=sig ρ ν j->i=j:=by
  intro i j hi hj e
  by_cases h1:i<ρ.length<;>by_cases h2:j<ρ.length
  ·obtain⟨a,ha,ea⟩:=qO h1
   obtain⟨b,hb,eb⟩:=qO h2;have CK:a=b:=by rw[<-ea,<-eb,e]
   subst CK;rw[VV h1,V6]at ha
   rw[VV h2,V6]at hb
   rcases WL i j with h3|h3|h3
   ·exact absurd (ha.trans hb.symm) (Wy.1 hn i j h1 h2 h3)
   ·exact h3
   ·exact absurd (hb.trans ha.symm) (Wy.1 hn j i h2 h1 h3)
  ·obtain⟨a,ha,ea⟩:=qO h1
   have:=yo hj (by rw[<-e,ea];exact Zad a (VW ha))
   omega
  ·obtain⟨b,hb,eb⟩:=qO h2
   have:=yo hi (by rw[e,eb];exact Zad b (VW hb))
   omega
  ·rw[Am h1,Am h2]at e;omega
 -- the Zet rows
 let β:Nat->Option qt:=λi=>if i<ρ.length then E.β (sig ρ ν i)else YX
 have Ef:∀{i B},β i=YW B->i<ρ.length/\E.β (sig ρ ν i)=YW B:=λ{i B} h=>by
  simp only[β]at h
  split at h
  ·exact⟨by assumption,h⟩
  ·cases h
 have hnS:∀l B,E.β l=YW B->B.z=YZ->l∈ρ->¬S B.b:=λl B hB hz Zff=>by
  cases flat with
  |false=>rw[IQ rfl];exact(hk.own l B hB hz).2.2
  |true=>
   have:=Lx rfl;rw[this]at SK
   rw[Xr.1 SK]at Zff
   cases Zff
 have Zhk:Ok w (nC β) (E1 S β m0.length E.ω) w m0:=by
  refine⟨Et.refl _ _,Zg2,λl B hB hz=>?_,λl l' B B' hB nK hz u4 e=>?_,λl hl=>hl,λl B hB=>?_,λl KV hm0=>?_,λl B hB=>?_,hk.Zh1 λb hb=>?_,λb q hq=>⟨hS1 b (hk.ow b q hq).1,(hk.ow b q hq).2⟩⟩
  ·obtain⟨h1,h2⟩:=Ef hB
   obtain⟨a,ha,ea⟩:=qO h1;rw[ea]at h2
   exact⟨.inl ⟨l,B,hB,hz,rfl⟩,(hk.own a B h2 hz).2.1,hnS a B h2 hz (VW ha)⟩
  ·obtain⟨h1,h2⟩:=Ef hB
   obtain⟨h3,h4⟩:=Ef nK;exact G7 Yn Yn (hk.inj _ _ B B' h2 h4 hz u4 e)
  ·have:=(Ef hB).1
   show l<m0.length;omega
  ·have IZ:l<ρ.length:=by rw[SK];exact(VU.1 hm0).1
   obtain⟨a,ha,ea⟩:=qO IZ;obtain⟨ZiZ,h1,h2,h3⟩:=hρ l a ha;rw[hm0]at h1
   simp only[V6]at h1
   subst h1;obtain⟨B,hB,hb⟩:=hk.mem a _ h2;refine⟨B,by simp only[E1,β];rw[if_pos IZ,ea];exact hB,hb.k,by rw[hb.n];simp[nb,rY],hb.T,hb.pos,hb.nc,hb.cm,λi cs hi=>?_,λhz=>?_,λhz=>?_,λT hT hz i cs j es x hi hj gZ hcx=>?_⟩
   ·have:=hb.es i (cs.map (sa (sig ρ ν))) (by simp[nb,rY,hi])
    simpa using this
   ·have:=hb.nil hz
    simpa[nb,rY]using this
   ·obtain⟨cells,m1',m2',m3'⟩:=hb.mem hz
    refine⟨cells,m1',m2',λi cs j p hi hj=>?_⟩
    obtain⟨x,x1,x2,x3⟩:=m3' i (cs.map (sa (sig ρ ν))) j (sa (sig ρ ν) p) (by simp[nb,rY,hi]) (by simp[hj])
    have u9:=h3 cs (VW hi) p (VW hj);refine⟨x,x1,x2,Hh (E:=E) (λl B hB=>(Ef hB).2) hS1 x3 u9.1 u9.2 (λcs e=>?_) (λcs e=>?_)⟩
    ·subst e;obtain⟨_,rfl,_⟩:=dG.qx x3;simp[Value.oneCell']at x2
    ·subst e;obtain⟨_,rfl,_⟩:=dG.xI x3;simp[Value.oneCell']at x2
   ·exact hb.key T hT hz i (cs.map (sa (sig ρ ν))) j es x (by simp[nb,rY,hi]) (by simp[hj,sa,u6]) gZ hcx
  ·obtain⟨h1,h2⟩:=Ef hB
   obtain⟨a,ha,ea⟩:=qO h1;obtain⟨KV,h3,_⟩:=hρ l a ha;exact⟨KV,h3⟩
  ·obtain⟨l,B,hB,hz,rfl⟩:=hb
   obtain⟨h1,h2⟩:=Ef hB;exact(hk.own _ B h2 hz).1
 refine(hc S β w vs E.ω Zhk hl (hargs β λl B hB=>(Ef hB).2)).mono ?_
 rintro e w' ⟨v,E',rfl,hok,hSS,hSn,⟨Zhw,Zdg⟩,tv⟩;have Zab:∀{i},E'.used i->i<m1.length:=λ{i} h=>hok.used i h
 -- the Zeu rows behind the call
 let m2:=jQ (sig ρ ν) ν (m1.drop ρ.length) (oU (sig ρ ν) ρ m1 m)
 let S2:Nat->Prop:=λb=>if flat then E.S b\/(w.heap.size<=b/\E'.S b)else E'.S b
 let β2:Nat->Option qt:=λl=>if td m2 l=YY then(if h:∃i,i<m1.length/\sig ρ ν i=l then E'.β (XG h)else E.β l)else YX
 let E2:Env:={ S:=S2,β:=β2,used:=λl=>E.used l\/∃i,E'.used i/\sig ρ ν i=l,ω:=λb q=>E.ω b q\/E'.ω b q}
 have Zb7:∀l∈ρ,l<m.length:=λl hl=>hk.used l (Zad l hl)
 have Gb:∀{l mb},m2[l]?=YW (YW mb)->(∃i PL,i<m1.length/\sig ρ ν i=l/\m1[i]?=YW (YW PL)/\mb=nb (sig ρ ν) PL)\/(l ∉ ρ/\(¬ ∃i,i<m1.length/\sig ρ ν i=l)/\m[l]?=YW (YW mb)):=by
  intro l mb h
  rcases xz _ _ _ _ _ h with⟨i,PL,rfl,h1,h2⟩ |h'
  ·rw[List.getElem?_drop]at h1
   refine .inl ⟨ρ.length+i,PL,(VU.1 h1).1,?_,h1,h2⟩;rw[Am Yn];omega
  ·by_cases hl:l∈ρ
   ·obtain⟨i,hi⟩:=WY hl
    have Bb:i<ρ.length:=(VU.1 hi).1;rw[Fh ρ m1 m hn Zb7 Yn i l hi]at h'
    rw[VV (show i<m1.length by omega)]at h'
    simp only[WG,V6]at h'
    obtain⟨PL,h1,h2⟩:=Wb.1 h';exact .inl ⟨i,PL,Yn,G8 hi,by rw[VV (show i<m1.length by omega),h1],h2.symm⟩
   ·rw[Dx ρ m1 m l hl]at h'
    refine .inr ⟨hl,?_,h'⟩;rintro⟨i,hi,rfl⟩;have:=yo hi (mi hk h');obtain⟨a,ha,ea⟩:=qO this;rw[ea]at hl
    exact hl (VW ha)
 have Ea:∀{i} (hi:i<m1.length) (h:∃j,j<m1.length/\sig ρ ν j=sig ρ ν i),XG h=i:=λ{i} hi h=>G7 (W6 h).1 hi (W6 h).2
 have I8:∀{l B},β2 l=YW B->td m2 l=YY/\((∃i,i<m1.length/\sig ρ ν i=l/\E'.β i=YW B)\/((¬ ∃i,i<m1.length/\sig ρ ν i=l)/\E.β l=YW B)):=by
  intro l B h;simp only[β2]at h
  split at h
  ·rename_i sR
   refine⟨sR,?_⟩
   split at h
   ·rename_i hex
    exact .inl ⟨XG hex,(W6 hex).1,(W6 hex).2,h⟩
   ·rename_i hex
    exact .inr ⟨hex,h⟩
  ·cases h
 have EP:∀b,b<w.heap.size->¬nC β b->w'.heap[b]?=w.heap[b]?:=λb hb hn=>hok.up.block b hb hn
 have wV:∀b,nC β b->∃l B,l∈ρ/\E.β l=YW B/\B.z=YZ/\B.b=b:=by
  rintro b ⟨l,B,hB,hz,rfl⟩;obtain⟨h1,h2⟩:=Ef hB;obtain⟨a,ha,ea⟩:=qO h1;exact⟨a,B,VW ha,by rw[<-ea];exact h2,hz,rfl⟩
 have ZeW:∀b,S2 b->E'.S b:=λb hb=>by
  simp only[S2]at hb
  split at hb
  ·rcases hb with hb|hb
   ·exact hSS b (hS1 b hb)
   ·exact hb.2
  ·exact hb
 have ZeV:∀b,S2 b->E.S b\/w.heap.size<=b\/nC β b:=λb hb=>by
  simp only[S2]at hb
  split at hb
  ·exact hb.imp id λh=>.inl h.1
  ·rename_i hf
   rcases hSn b hb with h|h|h
   ·rw[IQ (by simpa using hf)]at h;exact .inl h
   ·exact .inr (.inl h)
   ·exact .inr (.inr h)
 have SD:∀b,nC β b->nC E.β b:=λb ho=>by
  obtain⟨l,B,_,hB,hz,rfl⟩:=wV b ho;exact⟨l,B,hB,hz,rfl⟩
 have hSE:∀b,E.S b->S2 b:=λb hb=>by
  simp only[S2]
  split
  ·exact .inl hb
  ·exact hSS b (hS1 b hb)
 have hx:Ext w w' E E2:=by
  refine⟨hSE,λb o hb=>cell_of_heap (EP b (hk.sz b hb) λho=>?_),λl B hl hB=>?_,λl hl=>.inl hl,λb hb=>(ZeV b hb).imp id λh=>h.imp id (SD b),λb ho=>?_,hok.up.size,λb q hq=>⟨.inl hq,EP b (hk.sz b (hk.ow b q hq).1) λho=>(by obtain⟨l,B,_,hB,hz,rfl⟩:=wV b ho;exact(hk.own l B hB hz).2.2 (hk.ow _ q hq).1)⟩,λb q hq=>(by rcases hq with h|h;exact .inl h;exact(Zdg b q h).imp id λh=>h.imp id (SD b))⟩
  ·obtain⟨l,B,_,hB,hz,rfl⟩:=wV b ho
   exact(hk.own l B hB hz).2.2 hb
  ·rcases(I8 hB).2 with⟨i,hi,rfl,nK⟩ |⟨_,nK⟩
   ·have bX:=yo hi hl
    obtain⟨h1,h2⟩:=Ef (Zhw i B Yn nK);exact h2
   ·exact nK
  ·obtain⟨l,B,hB,hz,rfl⟩:=ho
   rcases(I8 hB).2 with⟨i,hi,_,nK⟩ |⟨_,nK⟩
   ·rcases(hok.own i B nK hz).1 with h|h
    ·exact .inl (SD _ h)
    ·exact .inr h
   ·exact .inl ⟨l,B,nK,hz,rfl⟩
 have Zfr:∀l B,E'.used l->E2.β (sig ρ ν l)=YW B->E'.β l=YW B:=by
  intro l B hl hB
  rcases(I8 hB).2 with⟨i,hi,he,nK⟩ |⟨wU,_⟩
  ·rw[<-G7 hi (Zab hl) he];exact nK
  ·exact absurd ⟨l,Zab hl,rfl⟩ wU
 have Zb5:∀p x,(flat=YY->Jg p=YY)->eI w' E'.S p x->eI w' E2.S p x:=by
  intro p x hp h
  cases hf:flat with
  |true=>exact h.flat (hp hf)
  |false=>exact h.all λb hb=>by simp only[E2,S2,hf];exact hb
 have Zfi:∀b q q',E.ω b q->E'.ω b q'->q'=q:=λb q q' h h'=>by
  rcases Zdg b q' h' with h1|h1|h1
  ·exact(hk.ow b q h).2 q' h1
  ·have:=hk.sz b (hk.ow b q h).1;omega
  ·obtain⟨l,B,_,hB,hz,rfl⟩:=wV b h1
   exact absurd (hk.ow _ q h).1 (hk.own l B hB hz).2.2
 have Zfx:∀b q,E'.ω b q->E2.S b:=λb q h=>by
  have h0:=(hok.ow b q h).1;simp only[E2,S2]
  split
  ·rename_i hf
   rcases Zdg b q h with h1|h1|h1
   ·exact .inl (hk.ow b q h1).1
   ·exact .inr ⟨h1,h0⟩
   ·obtain⟨l,B,hl,_⟩:=wV b h1
    have:=Lx hf;rw[this]at SK
    rw[Xr.1 SK]at hl
    cases hl
  ·exact h0
 have how:∀b q,E2.ω b q->E2.S b/\∀q',E2.ω b q'->q'=q:=λb q hq=>by
  rcases hq with h|h
  ·refine⟨hSE b (hk.ow b q h).1,λq' hq'=>?_⟩
   rcases hq' with h'|h'
   ·exact(hk.ow b q h).2 q' h'
   ·exact Zfi b q q' h h'
  ·refine⟨Zfx b q h,λq' hq'=>?_⟩
   rcases hq' with h'|h'
   ·exact(Zfi b q' q h' h).symm
   ·exact(hok.ow b q h).2 q' h'
 refine⟨v,E2,rfl,⟨?_,λb hb=>hok.sz b (ZeW b hb),λl B hB hz=>?_,λl l' B B' hB nK hz u4 e=>?_,λl hl=>?_,λl B hB=>?_,λl mb AE=>?_,λl B hB=>tU.1 (I8 hB).1,hk.KX,how⟩,hx,
  TX (flat:=flat) Zfr (λl hl=>.inr ⟨l,hl,rfl⟩) Zb5 tv hr,λl hl=>?_⟩
 ·refine hk.up.trans hok.up λb hb ho=>?_
  obtain⟨l,B,_,hB,hz,rfl⟩:=wV b ho
  rcases(hk.own l B hB hz).1 with h|h
  ·exact h
  ·omega
 ·rcases(I8 hB).2 with⟨i,hi,rfl,nK⟩ |⟨wU,nK⟩
  ·obtain⟨h1,h2,h3⟩:=hok.own i B nK hz
   refine⟨?_,h2,λhS=>h3 (ZeW _ hS)⟩
   rcases h1 with h1|h1
   ·obtain⟨l,B1,_,xe,KT,e1⟩:=wV _ h1
    rw[<-e1];exact(hk.own l B1 xe KT).1
   ·exact .inr (by have:=hk.up.size;omega)
  ·obtain⟨h1,h2,h3⟩:=hk.own l B nK hz
   refine⟨h1,by have:=hok.up.size;omega,λhS=>?_⟩
   rcases ZeV _ hS with h|h|h
   ·exact h3 h
   ·omega
   ·obtain⟨l3,B3,hl3,hB3,hz3,e3⟩:=wV _ h
    have:=hk.inj l3 l B3 B hB3 nK hz3 hz e3;subst this;obtain⟨j,hj⟩:=WY hl3;have Bc:j<ρ.length:=(VU.1 hj).1;exact wU ⟨j,Yn,G8 hj⟩
 ·have ZbY:∀{i l2 B1 B2},i<m1.length->E'.β i=YW B1->(¬ ∃j,j<m1.length/\sig ρ ν j=l2)->E.β l2=YW B2->B1.z=YZ->B2.z=YZ->B1.b=B2.b->False:=by
   intro i l2 B1 B2 hi xe wU hB2 KT ER e
   rcases(hok.own i B1 xe KT).1 with h|h
   ·obtain⟨l3,B3,hl3,hB3,hz3,e3⟩:=wV _ h
    have:=hk.inj l3 l2 B3 B2 hB3 hB2 hz3 ER (e3.trans e);subst this;obtain⟨j,hj⟩:=WY hl3;have Bc:j<ρ.length:=(VU.1 hj).1;exact wU ⟨j,Yn,G8 hj⟩
   ·have:=(hk.own l2 B2 hB2 ER).2.1
    omega
  rcases(I8 hB).2 with⟨i,hi,rfl,h1⟩ |⟨wU,h1⟩<;>rcases(I8 nK).2 with⟨i',nj,rfl,h2⟩ |⟨Sz,h2⟩
  ·rw[hok.inj i i' B B' h1 h2 hz u4 e]
  ·exact(ZbY hi h1 Sz h2 hz u4 e).elim
  ·exact(ZbY nj h2 wU h1 u4 hz e.symm).elim
  ·exact hk.inj l l' B B' h1 h2 hz u4 e
 ·obtain⟨g1,g2⟩:=xA (σ:=sig ρ ν) ν (m1.drop ρ.length) (oU (sig ρ ν) ρ m1 m)
  rw[Fi]at g1
  show l<(jQ (sig ρ ν) ν (m1.drop ρ.length) (oU (sig ρ ν) ρ m1 m)).length
  rcases hl with hl|⟨i,hi,rfl⟩
  ·have:=hk.used l hl;omega
  ·have nj:=Zab hi
   by_cases h:i<ρ.length
   ·obtain⟨a,ha,ea⟩:=qO h
    rw[ea];have:=Zb7 a (VW ha);omega
   ·rw[Am h]
    exact g2 _ Yw
 ·rcases(I8 hB).2 with⟨i,hi,rfl,h1⟩ |⟨wU,h1⟩
  ·exact .inr ⟨i,hok.bu i B h1,rfl⟩
  ·exact .inl (hk.bu l B h1)
 ·have sR:td m2 l=true:=tU.2 ⟨mb,AE⟩
  rcases Gb AE with⟨i,PL,hi,rfl,h1,rfl⟩ |⟨hl,wU,h1⟩
  ·obtain⟨B,hB,hb⟩:=hok.mem i PL h1
   have hex:∃j,j<m1.length/\sig ρ ν j=sig ρ ν i:=⟨i,hi,rfl⟩;refine⟨B,?_,hb.renamed (flat:=flat) (I2 PL (VW h1)) Zfr (λl hl=>.inr ⟨l,hl,rfl⟩) Zb5 λb q hq=>⟨.inr hq,Zfx b q hq⟩⟩
   simp only[E2,β2,sR,if_true,hex,dif_pos];rw[Ea hi];exact hB
  ·obtain⟨B,hB,hb⟩:=hk.mem l mb h1
   refine⟨B,by simp only[E2,β2,sR,if_true];rw[dif_neg wU];exact hB,hb.ext hx λhz=>EP _ (hk.own l B hB hz).2.1 λho=>?_⟩
   obtain⟨l3,B3,hl3,hB3,hz3,e3⟩:=wV _ ho;exact hl (hk.inj l3 l B3 B hB3 hB hz3 hz e3▸hl3)
 ·rcases hl with hl|⟨i,hi,rfl⟩
  ·exact .inl hl
  ·have nj:=Zab hi
   by_cases h:i<ρ.length
   ·obtain⟨a,ha,ea⟩:=qO h
    rw[ea];exact .inl (Zad a (VW ha))
   ·rw[Am h]
    exact .inr ⟨Yn,Yn⟩
def Pv:PV->Bool
 |.ag cs=>cs.all sq
 |.tu _=>YZ
 |p=>sq p
def pH(P:Program)(io:Bool)(wd ν:Nat)(f:FuncId)(ps:List PV)(m:Mem)(K:PV->Mem->Prop):Prop:=
 (∃r m1,yT m ps (λqs=>fa P f qs [] r m1)/\m1.length<=wd/\(∀mb,YW mb∈m1->∀cs∈mb.es,∀p∈cs,eK YY p\/mb.T.kd.isSome=YY/\vH p=YY)/\qR YY r/\K (yN (sig [] ν) r) (jQ (sig [] ν) ν m1 m))\/
 ∃(ρ:List Nat) (m0:Mem) (qs:List PV) (r:PV) (m1:Mem),(io=YY\/ρ=[])/\fa P f qs m0 r m1/\m0.length<=m1.length/\m1.length-m0.length<=wd/\ps=qs.map (yM (sig ρ ν))/\(∀q∈qs,ta YZ q/\Gp m0.length q=YY)/\ρ.Nodup/\pq (sig ρ ν) m m0.length ρ m0/\
  (∀mb,YW mb∈m1->∀cs∈mb.es,∀p∈cs,eK YZ p)/\qR YZ r/\K (yN (sig ρ ν) r) (jQ (sig ρ ν) ν (m1.drop ρ.length) (oU (sig ρ ν) ρ m1 m))
theorem JK(hk:Ok w0 O E w m){io:Bool}{wd ν:Nat}(wq:∀i,i<wd->¬E.used (ν+i)){f:FuncId}{ps:List PV}{vs:Array Value}(hl:vs.size=ps.length)(hr:∀(j:Nat) (p:PV) (x:Value),ps[j]?=YW p->vs[j]?=YW x->dG w E p x){K:PV->Mem->Prop}(h:pH P io wd ν f ps m K):
 ∃r m',K r m'/\Calls P f vs w λe w'=>∃v E',e=.returned v/\Ok w0 O E' w' m'/\Ext w w' E E'/\dG w' E' r v/\∀l,E'.used l->E.used l\/(ν<=l/\l<ν+wd):=by
 rcases h with⟨r,m1,hs,I7,I2,Lz,hK⟩ |⟨ρ,m0,qs,r,m1,_,hc,hle,I7,LD,hqs,hn,vz,I2,Lz,hK⟩
 ·refine⟨_,_,hK,?_⟩
  obtain⟨ds,hc,hdl,hd⟩:=Fs hk ps vs.toList _ Yn (λj p x hp hx=>hr j p x hp Yr) hs
  have uV:∀b,Rc E b->b<w.heap.size:=by
   rintro b (h|⟨l,B,hB,hz,rfl⟩)
   ·exact hk.sz b h
   ·exact(hk.own l B hB hz).2.1
  refine(H8 (ρ:=[]) (flat:=YY) hk hc (λi hi=>wq i Yn) (Ww _) Yn (λβ _ i p hp=>?_) List.nodup_nil trivial (λb hb=>.inl hb) (λh=>by cases h) (λ_=>rfl) uV I2 Lz).mono ?_
  ·have hi:i<vs.size:=by grind
   exact⟨vs[i],V7 hi,hd i p _ hp Yq _ _ _⟩
  ·rintro e w' ⟨v,E2,he,h1,h2,h3,h4⟩
   exact⟨v,E2,he,h1,h2,h3,λl hl=>(h4 l hl).imp id λh=>⟨h.1,Yn⟩⟩
 ·refine⟨_,_,hK,?_⟩
  have hql:vs.size=qs.length:=by grind
  refine(H8 (ρ:=ρ) (flat:=YZ) (S:=E.S) hk hc (λi hi=>wq i Yn) hle hql (λβ xN i p hp=>?_) hn vz (λb hb=>hb) (λ_=>rfl) (λh=>by cases h) hk.sz (λmb h cs hc p hp=>.inl (I2 mb h cs hc p hp)) Lz).mono ?_
  ·have hi:i<vs.size:=by grind
   have hg:=hqs p (VW hp);exact⟨vs[i],V7 hi,ZbN xN (λb hb=>hb) (hr i (yM (sig ρ ν) p) _ Yr (V7 hi)) hg.1 hg.2⟩
  grind
end
end Go.Proofs.YtdilaemengjipaaGreatDoor
namespace Go.Proofs.YtdilaemengjipaaGreatDoor
set_option maxRecDepth 10000
open Go.RowKit
variable {T:TypeId}{a:Act}{b io:Bool}{d:Option Tmp}{f:FuncId}{j l s:Nat}{p:PV}{ps:List PV}{q:Nat×Option MB}{tm:Array Value}{x:Operand}
def sU (P : Program) (f : FuncId) : Prop := ∃ fn, P.funcs[f]? = YW fn /\ fn.body.isSome = YY /\ (fn.name == "runtime.NumGoroutine") = YZ
def jj(P:Program)(io:Bool)(wd ν:Nat)(o:Op)(t:List PV)(m:Mem)(K:PV->Mem->Prop):Prop:=
 match o with
 |.alloc T=>Aa ν m T (pz P T) K
 |.box T x=>Aa ν m T (pc (gH t x)) K
 |.buildSlice T n ps=>na P ν m T n (ps.toList.map λq=>(q.1,gH t q.2)) K
 |.makeSlice T l c=>vO P ν m T (gH t l) (gH t c) K
 |.store T a x=>vP P m T (gH t a) (gH t x) K
 |.call c=>match c.callee with
  |.builtin .append=>match c.args.toList,c.argTypes.toList with
   | [s,x],[T,T']=>T=T'/\gF P ν m T (gH t s) (gH t x) K
   |_,_=>False
  |.value (.func f)=>sU P f/\pH P io wd ν f (c.args.toList.map (gH t)) m K
  |.value (.tmp i)=>match t.getD i .un with
   |.fn f cs=>(∀c∈cs,CX c=YY)/\sU P f/\pH P io wd ν f (c.args.toList.map (gH t)++cs) m K
   |_=>False
  |_=>qe P o t m λp=>K p m
 |_=>qe P o t m λp=>K p m
def gate(c:Bool)(y n:Prop):Prop:=(c=YY->y)/\(c=YZ->n)
def jq(t:List PV)(d:Option Tmp)(p:PV):List PV:=
 match d with
 |some d=>t.set d p
 |none=>t
def sV(P:Program)(ops:Array Oper)(K:List PV->Mem->Prop):List Oper->List PV->Mem->Prop
 | [],t,m=>K t m
 |o::rest,t,m=>match o.guard with
  |none=>jj P YY 16 m.length o.op t m λp m'=>sV P ops K rest (jq t o.dst p) m'
  |some (j,b)=>match(ops[j]?).bind (·.dst)with
   |none=>sV P ops K rest (jq t o.dst .ud) m
   |some d=>match t.getD d .un,b with
    |.v (.bool c),YY=>gate c (jj P YY 16 m.length o.op (t.set d (.v (.bool YY))) m λp m'=>sV P ops K rest (jq (t.set d (.v (.bool YY))) o.dst p) m') (sV P ops K rest (jq (t.set d (.v (.bool YZ))) o.dst .ud) m)
    |.v (.bool c),YZ=>gate c (sV P ops K rest (jq (t.set d (.v (.bool YY))) o.dst .ud) m) (jj P YY 16 m.length o.op (t.set d (.v (.bool YZ))) m λp m'=>sV P ops K rest (jq (t.set d (.v (.bool YZ))) o.dst p) m')
    |.ud,_=>sV P ops K rest (jq t o.dst .ud) m
    |_,_=>False
section
variable {w:World} {O:Nat->Prop} {E:Env} {w0:World} {m:Mem} {P:Program}
def Hu(P:Program)(w0:World)(O:Nat->Prop)(E:Env)(w:World)(wd ν:Nat)(a:Act)(o:Oper)(p:PV)(m':Mem):Prop:=
 ∀(K:Act->World->Prop) (Q:Exit->Act->World->Prop),(∀x w' E',Ok w0 O E' w' m'->Ext w w' E E'->dG w' E' p x->(∀l,E'.used l->E.used l\/(ν<=l/\l<ν+wd))->K (a.put o.dst x) w')->o.wp P a w K Q
theorem yh{wd ν:Nat}(I7:0<wd){o:Oper}{s:Sem Value}{m':Mem}(he:execOp a.eval o=do pure (Next.value (<-s)))(h:vc P w0 O E w ν s p m'):Hu P w0 O E w wd ν a o p m':=by
 obtain⟨x,w',E',kv,h1,h2,h3,h4⟩:=h;intro K Q hK;unfold Oper.wp;rw[he,Zch kv];exact hK x w' E' h1 h2 h3 λl hl=>(h4 l hl).imp id λh=>Yn
theorem VK{wd ν:Nat}(hk:Ok w0 O E w m){o:Oper}(h:KZ P E w a o p):Hu P w0 O E w wd ν a o p m:=by
 obtain⟨x,kv,h3⟩:=h;intro K Q hK;unfold Oper.wp;rw[kv];exact hK x w E hk (Ext.refl w E) h3 λl hl=>.inl hl
theorem CH {wd ν : Nat} (hk : Ok w0 O E w m) (wq : ∀ i, i < wd -> ¬ E.used (ν + i)) {t : List PV} {o : Oper} {vs : Array Value} (hf : sU P f) (kv : ∀ fn, P.funcs[f]? = YW fn -> fn.body.isSome = YY -> (fn.name == "runtime.NumGoroutine") = YZ -> (execOp a.eval o).run P w = .ok (.enter f vs) w)
 (hl:vs.size=ps.length) (hr:∀(j:Nat) (p:PV) (x:Value),ps[j]?=YW p->vs[j]?=YW x->dG w E p x) {K:PV->Mem->Prop} (h:pH P io wd ν f ps m K):∃p m',K p m'/\Hu P w0 O E w wd ν a o p m':=by
 obtain⟨fn,hf,Sg,Sy⟩:=hf;obtain⟨p,m',hK,ZeY⟩:=JK (P:=P) hk wq hl hr h;refine⟨p,m',hK,λK Q hKK=>?_⟩
 unfold Oper.wp;rw[kv fn hf Sg Sy,Oper.upon_enter];refine ZeY.mono ?_
 grind
theorem Rp{t:List PV}(ev:∀o:Operand,dG w E (gH t o) (a.eval o))(args:Array Operand)(j:Nat)(p:PV)(x:Value)(hp:(args.toList.map (gH t))[j]?=YW p)(hx:(args.map a.eval)[j]?=YW x):dG w E p x:=by
 grind
theorem Dt(hk:Ok w0 O E w m){wd ν:Nat}(I7:0<wd)(wq:∀i,i<wd->¬E.used (ν+i)){t:List PV}(ht:rQ w E t a.tmps){o:Oper}{K:PV->Mem->Prop}(h:jj P io wd ν o.op t m K):∃p m',K p m'/\Hu P w0 O E w wd ν a o p m':=by
 have ev:=yf ht;have SJ:¬E.used ν:=wq 0 I7;have red:qe P o.op t m (λp=>K p m)->∃p m',K p m'/\Hu P w0 O E w wd ν a o p m':=λh=>by
  obtain⟨p,hK,hg⟩:=Mr hk ht h;exact⟨p,m,hK,VK hk hg⟩
 unfold jj at h
 split at h
 ·rename_i T ho
  obtain⟨p,m',hK,hg⟩:=GA (P:=P) hk SJ h;exact⟨p,m',hK,yh I7 YB hg⟩
 ·rename_i T x ho
  obtain⟨p,m',hK,hg⟩:=L2 (P:=P) hk SJ (ev x) h;exact⟨p,m',hK,yh I7 YB hg⟩
 ·rename_i T n ps ho
  obtain⟨p,m',hK,hg⟩:=yJ (P:=P) hk SJ (vs:=ps.map fun(i,x)=>(i,a.eval x)) Yq (λj i p hj=>by
   grind) h
  exact⟨p,m',hK,yh I7 YB hg⟩
 ·rename_i T l c ho
  obtain⟨p,m',hK,hg⟩:=JN (P:=P) hk SJ (ev l) (ev c) h;exact⟨p,m',hK,yh I7 YB hg⟩
 ·rename_i T x y ho
  obtain⟨m',hK,w',kv,h1,h2⟩:=GK (P:=P) hk (ev x) (ev y) h;refine⟨_,m',hK,λK Q hKK=>?_⟩
  unfold Oper.wp;simp only[execOp,ho,Sem.run_bind,kv,Result.andThen_ok,Sem.run_pure];exact hKK Y3 w' E h1 h2 (.c .ud) λl hl=>.inl hl
 ·rename_i c ho
  split at h
  ·rename_i hc
   split at h
   ·rename_i s x T T' hx hT
    obtain⟨rfl,h⟩:=h;obtain⟨callee,args,argTypes⟩:=c;have ha:=wa hx;have hTs:=wa hT;simp only at hc ha hTs
    subst hc ha hTs;obtain⟨p,m',hK,hg⟩:=Ej (P:=P) (ty:=o.type) hk SJ (ev s) (ev x) h;refine⟨p,m',hK,yh I7 ?_ hg⟩;simp[execOp,ho,resolve,invoke,builtin]
   simp_all
  ·rename_i f hc
   obtain⟨hf,h⟩:=h;obtain⟨callee,args,argTypes⟩:=c;simp only at hc h
   subst hc;refine CH hk wq (t:=t) (vs:=args.map a.eval) hf (λfn hf Sg Sy=>?_) Yq (Rp ev args) h
   have LA : (fn.name = "runtime.NumGoroutine") = False := by simp_all
   have Zc5:(fn.body=YX)=False:=by
    grind
   simp[execOp,ho,resolve,invoke,Act.eval,callFunc,Deferred.ofValue,hf,LA,Zc5]
  ·rename_i i hc
   split at h
   ·rename_i f cs hti
    obtain⟨_,hf,h⟩:=h;obtain⟨callee,args,argTypes⟩:=c;simp only at hc h
    subst hc;have hv:=ev (.tmp i);simp only[gH,hti]at hv
    obtain⟨us,hus,hul,hur⟩:=hv.F6;refine CH hk wq (t:=t) (vs:=args.map a.eval++us) hf (λfn hf Sg Sy=>?_) Yr (λj p x hp hx=>?_) h
    ·have LA : (fn.name = "runtime.NumGoroutine") = False := by simp_all
     have Zc5:(fn.body=YX)=False:=by
      grind
     simp[execOp,ho,resolve,invoke,hus,callFunc,Deferred.ofValue,hf,LA,Zc5]
    grind
   simp_all
  simp_all
 simp_all
theorem rQ.ext{w':World}{E':Env}{t:List PV}{tm:Array Value}(h:rQ w E t tm)(hx:Ext w w' E E'):rQ w' E' t tm:=⟨h.1,λi p hp=>(h.2 i p hp).ext hx⟩
theorem rQ.put{t:List PV}{a:Act}(h:rQ w E t a.tmps){p:PV}{x:Value}(hp:dG w E p x)(d:Option Tmp):rQ w E (jq t d p) (a.put d x).tmps:=by
 cases d with
 |none=>exact h
 |some d=>
  refine⟨by simp[Act.put,jq,h.1],λi q hq=>?_⟩
  simp only[jq]at hq
  simp only[Act.put]
  by_cases e:d=i
  ·subst e
   have hd:d<t.length:=by grind
   rw[WM hd]at hq
   cases hq
   have:(a.tmps.setIfInBounds d x).getD d Y3=x:=by simp[Xt,h.1,hd]
   grind
  ·rw[WA e]at hq
   have:(a.tmps.setIfInBounds d x).getD i Y3=a.tmps.getD i Y3:=by
    simp_all
   rw[this];exact h.2 i q hq
theorem rQ.bool{t:List PV}{tm:Array Value}(h:rQ w E t tm){d:Nat}{c:Bool}(hc:t.getD d .un=.v (.bool c)):rQ w E (t.set d (.v (.bool c))) tm:=by
 refine⟨by simp[h.1],λi q hq=>?_⟩
 by_cases e:d=i
 ·subst e
  have hd:d<t.length:=by grind
  rw[WM hd]at hq
  cases hq
  refine h.2 d _ ?_
  simp_all
 ·rw[WA e]at hq
  exact h.2 i q hq
theorem CJ{o:Oper}(h:o.guard=YX)(y:Nat->Option Bool):Region.wanted o y=true:=by simp[Region.wanted,h]
theorem IM{ops:Array Oper}{o:Oper}(h:o.guard=YW (j,b))(hd:(ops[j]?).bind (·.dst)=YX)(tm:Array Value):Region.wanted o (yielded ops tm)=false:=by
 simp[Region.wanted,h,yielded,hd]
theorem uE{ops:Array Oper}{o:Oper}{j d:Nat}{b c:Bool}(h:o.guard=YW (j,b))(hd:(ops[j]?).bind (·.dst)=YW d){t:List PV}(ht:rQ w E t tm)(hc:t.getD d .un=.v (.bool c)):Region.wanted o (yielded ops tm)=(c==b):=by
 have bX:d<t.length:=by
  grind
 have tv:=ht.2 d _ (VV bX);have hda:d<tm.size:=by rw[ht.1];omega
 have e1:tm.getD d Y3=tm[d]:=by simp_all
 have e2:t.getD d .un=t[d]:=by simp_all
 rw[e1,<-e2,hc]at tv
 have:=tv.iz.1;simp only[Region.wanted,h,yielded,hd,VT,V7 hda,this];rfl
theorem IN{ops:Array Oper}{o:Oper}{j d:Nat}(h:o.guard=YW (j,b))(hd:(ops[j]?).bind (·.dst)=YW d){t:List PV}(ht:rQ w E t tm)(hc:t.getD d .un=.ud):Region.wanted o (yielded ops tm)=false:=by
 have bX:d<t.length:=by
  grind
 have tv:=ht.2 d _ (VV bX);have hda:d<tm.size:=by rw[ht.1];omega
 have e1:tm.getD d Y3=tm[d]:=by simp_all
 have e2:t.getD d .un=t[d]:=by simp_all
 rw[e1,<-e2,hc]at tv
 have hu:tm[d]=Y3:=by
  generalize tm[d]=z at tv
  cases tv with
  |c h=>cases h;rfl
 simp only[Region.wanted,h,yielded,hd,VT,V7 hda,hu];rfl
theorem xy{ops:Array Oper}{K:List PV->Mem->Prop}{Q:Exit->Act->World->Prop}:∀(l:List Oper) (t:List PV) (m:Mem) (E:Env) (w:World) (a:Act),Ok w0 O E w m->a.defers=[]->rQ w E t a.tmps->sV P ops K l t m->
 (∀t m E' w' (a':Act),K t m->Ok w0 O E' w' m->Ext w w' E E'->a'.defers=[]->rQ w' E' t a'.tmps->Q .normal a' w')->wpList P ops Q l a w
 | [],t,m,E,w,a,hk,hd,ht,h,hQ=>hQ t m E w a h hk (Ext.refl w E) hd ht
 |o::l,t,m,E,w,a,hk,hd,ht,h,hQ=>by
  have hdd:∀x,(a.put o.dst x).defers=[]:=λx=>by cases o.dst<;>exact hd
  have run:∀t',rQ w E t' a.tmps->Region.wanted o (yielded ops a.tmps)=YY->jj P YY 16 m.length o.op t' m (λp m'=>sV P ops K l (jq t' o.dst p) m')->wpList P ops Q (o::l) a w:=by
   intro t' Hq hw h;obtain⟨p,m',hK,hg⟩:=Dt hk Yn (λi _ hu=>by have:=hk.used _ hu;omega) Hq h
   unfold wpList;rw[if_pos hw];exact .inl (hg _ _ λx w' E' h1 h2 h3 _=>xy l _ m' E' w' _ h1 (hdd x) ((Hq.ext h2).put h3 o.dst) hK λt m E2 w2 a2 k1 k2 k3=>hQ t m E2 w2 a2 k1 k2 (h2.trans k3))
  have pass:∀t',rQ w E t' a.tmps->Region.wanted o (yielded ops a.tmps)=YZ->sV P ops K l (jq t' o.dst .ud) m->wpList P ops Q (o::l) a w:=by
   intro t' Hq hw h;unfold wpList;rw[hw,if_neg Yq];exact xy l _ m E w _ hk (hdd _) (Hq.put (.c .ud) o.dst) h hQ
  simp only[sV]at h
  split at h
  ·rename_i hg;exact run t ht (CJ hg _) h
  ·rename_i j b hg
   split at h
   ·rename_i Eb;exact pass t ht (IM hg Eb _) h
   ·rename_i d Eb
    split at h
    ·rename_i c hc
     have hb:=uE hg Eb ht hc
     cases c with
     |true=>exact run _ (ht.bool hc) hb (h.1 rfl)
     |false=>exact pass _ (ht.bool hc) hb (h.2 rfl)
    ·rename_i c hc
     have hb:=uE hg Eb ht hc
     cases c with
     |true=>exact pass _ (ht.bool hc) hb (h.1 rfl)
     |false=>exact run _ (ht.bool hc) hb (h.2 rfl)
    ·rename_i hc;exact pass t ht (IN hg Eb ht hc) h
    simp_all
end
def pj:PV->List Nat
 |.ms l=>[l]
 |.ss l _ _=>[l]
 |.be l _ _=>[l]
 |_=>[]
def nX:PV->List Nat
 |.fn _ cs=>cs.flatMap pj
 |p=>pj p
def pJ:PV->List Nat
 |.ag cs=>cs.flatMap nX
 |p=>nX p
def jm:PV->List Nat
 |.tu vs=>vs.flatMap pJ
 |p=>pJ p
def opM:Op->Bool
 |.move _|.assign _|.extract ..=>YZ
 |_=>YY
def opR(o:Op)(t:List PV):List Nat:=match opM o with
 |true=>o.operands.toList.flatMap λx=>jm (gH t x)
 |false=>[]
def QY(o:Op)(t:List PV)(wd ν:Nat):List Nat:=
 match o with
 |.alloc _=>[ν]
 |.box _ _=>[ν]
 |.buildSlice _ _ _=>[ν]
 |.makeSlice _ _ _=>[ν]
 |.store _ a _=>jm (gH t a)
 |.call c=>match c.callee with
  |.builtin .append=>ν::(c.args.toList.take 1).flatMap λx=>jm (gH t x)
  |.builtin _=>[]
  |_=>XB ν wd
 |_=>[]
abbrev UI:=List (Nat×Option MB)
def qX(m:Mem)(q:Nat×Option MB):Mem:=(m++V8 (q.1+1-m.length) YX).set q.1 q.2
def app(u:UI)(m:Mem):Mem:=u.foldl qX m
theorem uv{m:Mem}(h:l<m.length)(x:Option MB):app [(l,x)] m=m.set l x:=by
 simp only[app,Wq,Wn,qX];rw[show l+1-m.length=0 by omega];simp
def look(m:Mem)(l:Nat):Option MB:=(m[l]?).join
theorem jt{m:Mem}{mb:MB}:look m l=YW mb↔m[l]?=YW (YW mb):=by
 unfold look
 grind
theorem mF{m:Mem}(K:MB->Prop):live m l K=match look m l with
 |some mb=>K mb
 |none=>False:=by
 unfold look live
 grind
structure Same(o:Op)(t:List PV)(m:Mem)(t2:List PV)(m2:Mem):Prop where
 te:∀x∈o.operands.toList,gH t2 x=gH t x
 me:∀l∈opR o t,look m2 l=look m l
section
variable {P:Program} {m m2:Mem} {t t2:List PV} {o:Op}
theorem Same.refs(h:Same o t m t2 m2)(hm:opM o=YY)(hx:x∈o.operands.toList)(hl:l∈jm (gH t x)):look m2 l=look m l:=h.me l (by unfold opR;grind)
theorem kx(h:look m2 l=look m l)(K:MB->Prop):live m2 l K=live m l K:=by rw[mF,mF,h]
theorem Qm(h:∀l∈jm p,look m2 l=look m l):KW m2 p=KW m p:=by
 cases p with
 |be l i o=>
  have e:=h l YD;have key:∀m:Mem,KW m (.be l i o)=(look m l).bind λmb=>(mb.es[i]?).map (·.drop o):=by
   intro m;unfold look KW
   cases h:m[l]? with
   |none=>grind
   |some x=>cases x<;>simp[h]
  simp_all
 |_=>rfl
theorem L7(h:∀l∈jm p,look m2 l=look m l):Ek m2 p=Ek m p:=by
 funext K
 cases p with
 |be l i o=>simp only[Ek,kx (h l YD)]
 |_=>rfl
theorem GD{S D:TypeId}(h:∀l∈jm p,look m2 l=look m l):rS P m2 S D p=rS P m S D p:=by
 funext K
 cases p with
 |ms l=>simp only[rS,kx (h l YD)]
 |_=>rfl
theorem GI{lo hi:Option PV}(h:∀l∈jm p,look m2 l=look m l):kY P m2 T p lo hi=kY P m T p lo hi:=by
 funext K
 cases p with
 |ms l=>
  have e:=kx (m:=m) (m2:=m2) (h l YD)
  cases hu:P.underlying T with
  |none=>simp only[kY,hu]
  |some d=>cases d<;>simp only[kY,hu,e]
 |ss l a b=>
  have e:=kx (m:=m) (m2:=m2) (h l YD)
  cases hu:P.underlying T with
  |none=>simp only[kY,hu]
  |some d=>cases d<;>simp only[kY,hu,e]
 |v x=>
  unfold kY
  grind
 |_=>
  unfold kY
  cases hu:P.underlying T with
  |none=>rfl
  |some d=>cases d<;>rfl
theorem Ab{f:Nat}(h:∀l∈jm p,look m2 l=look m l):kX P m2 T p f=kX P m T p f:=by
 funext K
 cases p with
 |be l i o=>
  have e:=kx (m:=m) (m2:=m2) (h l YD);simp only[kX,e]
 |_=>rfl
theorem Ad{p q:PV}(h:∀l∈jm p,look m2 l=look m l):cR P m2 T p q=cR P m T p q:=by
 funext K
 cases p with
 |ms l=>
  have e:=kx (m:=m) (m2:=m2) (h l YD);simp only[cR,e]
 |ss l a b=>
  have e:=kx (m:=m) (m2:=m2) (h l YD);simp only[cR,e]
 |_=>rfl
theorem L4(h:∀l∈jm p,look m2 l=look m l):wO P m2 T p=wO P m T p:=by
 funext K
 cases p with
 |ms l=>
  have e:=kx (m:=m) (m2:=m2) (h l YD)
  cases hu:P.underlying T with
  |none=>simp only[wO,hu]
  |some d=>cases d<;>simp only[wO,hu,e]
 |ss l a b=>
  have e:=kx (m:=m) (m2:=m2) (h l YD)
  cases hu:P.underlying T with
  |none=>simp only[wO,hu]
  |some d=>cases d<;>simp only[wO,hu,e]
 |v x=>
  unfold wO
  grind
 |_=>
  unfold wO
  cases hu:P.underlying T with
  |none=>rfl
  |some d=>cases d<;>rfl
theorem Kt(h:∀l∈jm p,look m2 l=look m l):pL m2 p=pL m p:=by
 cases p with
 |ms l=>
  have e:=h l YD;have key:∀m:Mem,pL m (.ms l)=(look m l).map (·.es):=by
   intro m;unfold look pL
   cases h:m[l]? with
   |none=>grind
   |some x=>cases x<;>simp[h]
  simp_all
 |ss l a b=>
  have e:=h l YD;have key:∀m:Mem,pL m (.ss l a b)=(look m l).map λmb=>(mb.es.drop a).take (b-a):=by
   intro m;unfold look pL
   cases h:m[l]? with
   |none=>grind
   |some x=>cases x<;>simp[h]
  simp_all
 |v x=>cases x<;>first|rfl|(rename_i A n c;cases A<;>first|rfl|(cases n<;>rfl))
 |_=>rfl
theorem vU(h:∀l∈nX p,look m2 l=look m l):yU m2 p=yU m p:=by
 funext K
 cases p with
 |ms l=>simp only[yU];rw[kx (h l (by simp[nX,pj]))]
 |ss l a b=>simp only[yU];rw[kx (h l (by simp[nX,pj]))]
 |_=>rfl
theorem AU:∀{cs:List PV},(∀l∈cs.flatMap nX,look m2 l=look m l)->DJ m2 cs=DJ m cs
 | [],_=>by rfl
 |c::cs,h=>by
  funext K
  simp only[DJ];rw[vU λl hl=>h l Yr,AU λl hl=>h l (by
   simp_all)]
theorem Ko(h:∀l∈jm p,look m2 l=look m l):DK m2 p=DK m p:=by
 funext K
 cases p with
 |ag cs=>simp only[DK];rw[AU λl hl=>h l hl]
 |tu vs=>rfl
 |v x=>rfl
 |ud=>rfl
 |un=>rfl
 |sl es=>rfl
 |rp cs=>rfl
 |ms l=>exact congrFun (vU (p:=.ms l) λl hl=>h l hl) K
 |ss l a b=>exact congrFun (vU (p:=.ss l a b) λl hl=>h l hl) K
 |be l i o=>rfl
 |fn f cs=>rfl
theorem AT:∀{cs:List PV},(∀l∈cs.flatMap jm,look m2 l=look m l)->yT m2 cs=yT m cs
 | [],_=>by rfl
 |c::cs,h=>by
  funext K
  simp only[yT];rw[Ko λl hl=>h l Yr,AT λl hl=>h l (by
   simp_all)]
theorem map_congr{xs:List Operand}(h:∀x∈xs,gH t2 x=gH t x):xs.map (gH t2)=xs.map (gH t):=WB h
theorem Mq(h:Same o t m t2 m2):qe P o t2 m2=qe P o t m:=by
 have hr:=fun(hm:opM o=YY) {x:Operand} (hx:x∈o.operands.toList)=>(λl (hl:l∈jm (gH t x))=>h.refs hm hx hl)
 have ht:=λ{x:Operand} (hx:x∈o.operands.toList)=>h.te x hx
 funext K
 cases o with
 |move x=>simp only[qe];rw[ht Yu]
 |assign x=>simp only[qe];rw[ht Yu]
 |pick c a b=>simp only[qe];rw[ht (x:=c) Yu,ht (x:=a) Yu,ht (x:=b) Yu]
 |load T x=>simp only[qe];rw[ht (x:=x) Yu,Qm (hr rfl (x:=x) Yu)]
 |nilCheck x=>simp only[qe];rw[ht (x:=x) Yu,L7 (hr rfl (x:=x) Yu)]
 |binOp op T x y Ty=>simp only[qe];rw[ht (x:=x) Yu,ht (x:=y) Yu]
 |unOp op T x=>simp only[qe];rw[ht (x:=x) Yu]
 |convert S D x=>simp only[qe];rw[ht (x:=x) Yu,GD (hr rfl (x:=x) Yu)]
 |makeFunc fn first cs=>
  simp only[qe];rw[map_congr λx hx=>ht (x:=x) (by simp only[Op.operands,XD,Wi];simp_all)]
 |slice T x lo hi mx=>
  cases mx with
  |some _=>rfl
  |none=>
   simp only[qe];rw[ht (x:=x) Yu,GI (hr rfl (x:=x) Yu)];have e1:lo.map (gH t2)=lo.map (gH t):=by
    cases lo with
    |none=>rfl
    |some z=>simp only[WG];rw[ht (x:=z) Yu]
   have e2:hi.map (gH t2)=hi.map (gH t):=by
    cases hi with
    |none=>rfl
    |some z=>simp only[WG];rw[ht (x:=z) Yu]
   simp_all
 |fieldAddr S x f=>simp only[qe];rw[ht (x:=x) Yu,Ab (hr rfl (x:=x) Yu)]
 |field T x f=>simp only[qe];rw[ht (x:=x) Yu]
 |indexAddr T x i=>simp only[qe];rw[ht (x:=x) Yu,ht (x:=i) Yu,Ad (hr rfl (x:=x) Yu)]
 |index T x i=>simp only[qe];rw[ht (x:=x) Yu,ht (x:=i) Yu]
 |extract x i=>simp only[qe];rw[ht (x:=x) Yu]
 |build T ps=>
  simp only[qe];have:(ps.toList.map λq=>(q.1,gH t2 q.2))=ps.toList.map λq=>(q.1,gH t q.2):=WB λq hq=>by
   rw[ht (x:=q.2) (by simp only[Op.operands];grind)]
  grind
 |call c=>
  have ha:∀x∈c.args.toList,x∈(Op.call c).operands.toList:=λx hx=>by
   simp only[Op.operands,Call.operands,XD,Wi];simp_all
  simp only[qe];have e:=map_congr (xs:=c.args.toList) λx hx=>ht (ha x hx)
  split
  ·split
   ·rename_i x T hx hT
    have uq:x∈c.args.toList:=by simp_all
    rw[ht (ha x uq),L4 (hr rfl (ha x uq))]
   rfl
  all_goals grind
 |_=>rfl
theorem TG{K:PV->Prop}(h:qe P o t m K):∃p,K p/\qe P o t m λp'=>p'=p:=by
 have L:∀{T:TypeId} {cs:Option (List PV)} {K:PV->Prop},rX P T cs K->∃p,K p/\rX P T cs λp'=>p'=p:=by
  intro T cs K h;unfold rX at *
  split at h
  all_goals grind
 have Lv:∀{l:Nat} {A:MB->Prop},live m l A->∃mb,m[l]?=YW (YW mb)/\A mb:=λh=>iM h
 have Lw:∀{l:Nat} {A:MB->Prop} {mb:MB},m[l]?=YW (YW mb)->A mb->live m l A:=by
  intro l A mb h1 h2;unfold live
  simp_all
 unfold qe at *
 split at h<;>(try exact h.elim)
 ·simp_all
 ·simp_all
 ·grind
 ·grind
 ·unfold Ek at *
  grind
 ·unfold JJ at *
  split at h
  ·rename_i h1 h2
   unfold Gx at *
   grind
  ·rename_i h1 h2
   unfold u7 at *
   grind
  simp_all
 ·unfold pUn at *
  grind
 ·unfold rS at *
  split at h
  ·rename_i h1
   split at h
   all_goals grind
  ·rename_i h0
   have key:∀{S D:TypeId} {x:PV} {K:PV->Prop},Di P S D x K->∃p,K p/\Di P S D x λp'=>p'=p:=by
    intro S D x K h;unfold Di at *
    grind
   simp_all
 ·grind
 ·split at h
  ·unfold kY at *
   split at h
   all_goals grind
  simp_all
 ·unfold kX at *
  split at h
  ·rename_i h1
   split at h
   all_goals grind
  simp_all
 ·unfold vN at *
  grind
 ·unfold cR at *
  split at h
  all_goals grind
 ·unfold sK at *
  grind
 ·unfold JM at *
  grind
 ·unfold vM at *
  split at h
  all_goals grind
 ·split at h
  ·rename_i hc
   split at h
   ·rename_i h1 h2
    unfold wO at *
    grind
   simp_all
  ·rename_i hc
   unfold qL at *
   grind
  ·rename_i hc
   unfold qL at *
   grind
  simp_all
end
section
variable {P:Program} {m m2:Mem} {t t2:List PV} {o:Op}
def uQ(σ:Nat->Nat):Nat->Mem->UI
 |_,[]=>[]
 |ν,x::m1=>(ν,x.map (nb σ))::uQ σ (ν+1) m1
theorem qf(σ:Nat->Nat):∀(ν:Nat) (m1 m:Mem),jQ σ ν m1 m=app (uQ σ ν m1) m
 |ν,[],m=>by rfl
 |ν,YW mb::m1,m=>by unfold jQ;rw[qf σ (ν+1) m1];rfl
 |ν,YX::m1,m=>by unfold jQ;rw[qf σ (ν+1) m1];rfl
theorem uR(σ:Nat->Nat):∀(ν:Nat) (m1:Mem) (q:Nat×Option MB),q∈uQ σ ν m1->ν<=q.1/\q.1<ν+m1.length
 |ν,[],q,h=>by simp[uQ]at h
 |ν,x::m1,q,h=>by
  simp only[uQ,V5]at h
  rcases h with rfl|h
  ·simp
  ·have:=uR σ (ν+1) m1 q h
   grind
theorem mem_range'{ν k n:Nat}:k∈XB ν n↔ν<=k/\k<ν+n:=List.mem_range'_1
theorem AQ{wd ν:Nat}{K:PV->Mem->Prop}(h:pH P YZ wd ν f ps m K):
 ∃p u,K p (app u m)/\(∀q∈u,q.1∈XB ν wd)/\∀m2,(∀l∈ps.flatMap jm,look m2 l=look m l)->pH P YZ wd ν f ps m2 λp' m'=>p'=p/\m'=app u m2:=by
 rcases h with⟨r,m1,hs,h16,I2,Lz,hK⟩ |⟨ρ,m0,qs,r,m1,hio,hc,hle,h16,LD,hqs,hn,vz,I2,Lz,hK⟩
 ·refine⟨yN (sig [] ν) r,uQ (sig [] ν) ν m1,by rw[<-qf];omega,λq hq=>?_,λm2 AE=>.inl ⟨r,m1,by rw[AT AE];omega,h16,I2,Lz,rfl,qf _ _ _ _⟩⟩
  rw[mem_range'];have:=uR _ _ _ q hq;omega
 ·obtain rfl:ρ=[]:=by simp_all
  have h0:m0=[]:=by
   have:=(sH vz).1
   grind
  subst h0;simp only[V1,X8,oU]at hK
  refine⟨yN (sig [] ν) r,uQ (sig [] ν) ν m1,by rw[<-qf];omega,λq hq=>?_,λm2 AE=>.inr ⟨[],[],qs,r,m1,.inr rfl,hc,hle,h16,LD,hqs,hn,trivial,I2,Lz,rfl,?_⟩⟩
  ·rw[mem_range']
   have:=uR _ _ _ q hq
   grind
  ·simp only[V1,X8,oU];exact qf _ _ _ _
theorem Mm{wd ν:Nat}{K:PV->Mem->Prop}(h:jj P YZ wd ν o t m K):
 ∃p u,K p (app u m)/\(∀q∈u,q.1∈QY o t wd ν)/\∀t2 m2,Same o t m t2 m2->jj P YZ wd ν o t2 m2 λp' m'=>p'=p/\m'=app u m2:=by
 have red:∀{K:PV->Prop},qe P o t m K->∃p,K p/\∀t2 m2,Same o t m t2 m2->qe P o t2 m2 λp'=>p'=p:=by
  intro K h;obtain⟨p,h1,h2⟩:=TG h;exact⟨p,h1,λt2 m2 hs=>by rw[Mq hs];omega⟩
 have imp:∀{t2 m2 p},qe P o t2 m2 (λp'=>p'=p)->qe P o t2 m2 λp'=>p'=p/\m2=app [] m2:=by
  intro t2 m2 p h;have:(λp'=>p'=p/\m2=app [] m2)=λp'=>p'=p:=by funext p';simp[app]
  simp_all
 cases o with
 |alloc T=>
  simp only[jj]at *
  unfold Aa at *
  split at h
  ·rename_i c cs hz
   exact⟨_,[(ν,YW _)],h,by simp[QY],λt2 m2 _=>by simp only[hz];exact⟨trivial,rfl⟩⟩
  simp_all
 |box T x=>
  simp only[jj]at *
  unfold Aa at *
  split at h
  ·rename_i c cs hz
   exact⟨_,[(ν,YW _)],h,by simp[QY],λt2 m2 hs=>by rw[hs.te x Yu];simp only[hz];exact⟨trivial,rfl⟩⟩
  simp_all
 |buildSlice T n ps=>
  simp only[jj]at *
  have e:∀{t2 m2},Same (.buildSlice T n ps) t m t2 m2->(ps.toList.map λq=>(q.1,gH t2 q.2))=ps.toList.map λq=>(q.1,gH t q.2):=λhs=>WB λq hq=>by
   rw[hs.te q.2 (by simp only[Op.operands];grind)]
  unfold na at *
  split at h
  ·rename_i e1 hu
   split at h
   ·rename_i zc hz
    obtain⟨h1,h2,h3,h⟩:=h
    split at h
    ·rename_i cs hf
     exact⟨_,[(ν,YW _)],h,by simp[QY],λt2 m2 hs=>by rw[e hs];simp only[hu,hz,hf];exact⟨h1,h2,h3,trivial,rfl⟩⟩
    simp_all
   simp_all
  simp_all
 |makeSlice T l c=>
  simp only[jj]at *
  unfold vO at *
  split at h
  ·rename_i e n n' hu hl hc
   split at h
   ·rename_i zc hz
    obtain⟨h1,h2,h3,h4,h5,h6,h⟩:=h;exact⟨_,[(ν,YW _)],h,by simp[QY],λt2 m2 hs=>by
     rw[hs.te l Yu,hs.te c Yu];simp only[hu,hl,hc,hz];exact⟨h1,h2,h3,h4,h5,h6,trivial,rfl⟩⟩
   simp_all
  simp_all
 |store T x y=>
  simp only[jj]at *
  unfold vP at *
  split at h
  ·rename_i l i o qs hx hq
   obtain⟨mb,hm,h⟩:=iM h
   split at h
   ·rename_i cs so
    obtain⟨h1,h2,h3,h⟩:=h;have hl:l<m.length:=(VU.1 hm).1;refine⟨_,[(l,YW _)],by rw[uv hl];exact h,by simp[QY,hx,jm,pJ,nX,pj],λt2 m2 hs=>?_⟩
    have AE:m2[l]?=YW (YW mb):=jt.1 ((hs.refs rfl (x:=x) Yu (by simp[hx,jm,pJ,nX,pj])).trans (jt.2 hm))
    rw[hs.te x Yu,hs.te y Yu];simp only[hx,hq,live,AE,so];exact⟨h1,h2,h3,trivial,(uv (VU.1 AE).1 _).symm⟩
   simp_all
  simp_all
 |call c=>
  have ha:∀x∈c.args.toList,x∈(Op.call c).operands.toList:=λx hx=>by
   simp only[Op.operands,Call.operands,XD,Wi];simp_all
  have Sv:∀{t2 m2},Same (.call c) t m t2 m2->c.args.toList.map (gH t2)=c.args.toList.map (gH t):=λhs=>map_congr λx hx=>hs.te x (ha x hx)
  have hrefs:∀{t2 m2},Same (.call c) t m t2 m2->∀l∈(c.args.toList.map (gH t)).flatMap jm,look m2 l=look m l:=λhs l hl=>by
   simp only[WS,List.mem_map]at hl
   obtain⟨p,⟨x,hx,rfl⟩,hl⟩:=hl;exact hs.refs rfl (ha x hx) hl
  simp only[jj]at *
  split at h
  ·rename_i hc
   split at h
   ·rename_i s x T T' hx hT
    obtain⟨hTT,h⟩:=h;have hs':s∈c.args.toList:=by simp_all
    have uq:x∈c.args.toList:=by simp_all
    have hrw:∀{t2 m2},Same (.call c) t m t2 m2->gH t2 s=gH t s/\gH t2 x=gH t x/\pL m2 (gH t x)=pL m (gH t x):=λhs=>⟨hs.te s (ha s hs'),hs.te x (ha x uq),Kt λl hl=>hs.refs rfl (ha x uq) hl⟩
    unfold gF at h
    split at h
    ·rename_i e hu
     split at h
     ·rename_i zc es hz xh
      obtain⟨h1,h2,h3,h⟩:=h
      split at h
      ·rename_i l vA
       obtain⟨mb,hm,g1,g2,g3,g4,h⟩:=iM h;have hl:l<m.length:=(VU.1 hm).1;refine⟨_,[(l,YX),(ν,YW _)],by simp only[app,Wq,Wn];rw[show qX m (l,YX)=m.set l YX from uv hl YX];exact h,?_,λt2 m2 hs=>?_⟩
       ·intro q hq
        simp only[QY,hc,V5,V4,or_false]at hq⊢
        rcases hq with rfl|rfl
        ·exact .inr (WS.2 ⟨s,by simp_all,by simp[vA,jm,pJ,nX,pj]⟩)
        omega
       ·obtain⟨e1,e2,e3⟩:=hrw hs
        have AE:m2[l]?=YW (YW mb):=jt.1 ((hs.refs rfl (ha s hs') (by simp[vA,jm,pJ,nX,pj])).trans (jt.2 hm))
        refine⟨hTT,?_⟩;unfold gF;rw[e1,e2];simp only[hu,hz,e3,xh,vA,live,AE];refine⟨h1,h2,h3,g1,g2,g3,g4,trivial,?_⟩;simp only[app,Wq,Wn];rw[show qX m2 (l,YX)=m2.set l YX from uv (VU.1 AE).1 YX];rfl
      ·rename_i l a b vA
       obtain⟨h0,h⟩:=h;obtain⟨mb,hm,g1,g2,g5,g3,g4,h⟩:=iM h;have hl:l<m.length:=(VU.1 hm).1;refine⟨_,[(l,YX),(ν,YW _)],by simp only[app,Wq,Wn];rw[show qX m (l,YX)=m.set l YX from uv hl YX];exact h,?_,λt2 m2 hs=>?_⟩
       ·intro q hq
        simp only[QY,hc,V5,V4,or_false]at hq⊢
        rcases hq with rfl|rfl
        ·exact .inr (WS.2 ⟨s,by simp_all,by simp[vA,jm,pJ,nX,pj]⟩)
        omega
       ·obtain⟨e1,e2,e3⟩:=hrw hs
        have AE:m2[l]?=YW (YW mb):=jt.1 ((hs.refs rfl (ha s hs') (by simp[vA,jm,pJ,nX,pj])).trans (jt.2 hm))
        refine⟨hTT,?_⟩;unfold gF;rw[e1,e2];simp only[hu,hz,e3,xh,vA,live,AE];refine⟨h1,h2,h3,h0,g1,g2,g5,g3,g4,trivial,?_⟩;simp only[app,Wq,Wn];rw[show qX m2 (l,YX)=m2.set l YX from uv (VU.1 AE).1 YX];rfl
      ·rename_i vA
       obtain⟨g3,g4,h⟩:=h;refine⟨_,[(ν,YW _)],h,by simp[QY,hc],λt2 m2 hs=>?_⟩
       obtain⟨e1,e2,e3⟩:=hrw hs;refine⟨hTT,?_⟩;unfold gF;rw[e1,e2];simp only[hu,hz,e3,xh,vA];exact⟨h1,h2,h3,g3,g4,trivial,rfl⟩
      simp_all
     simp_all
    simp_all
   simp_all
  ·rename_i f hc
   obtain⟨hf,h⟩:=h;obtain⟨p,u,h1,h2,h3⟩:=AQ h;refine⟨p,u,h1,by simp only[QY,hc];omega,λt2 m2 hs=>⟨hf,?_⟩⟩
   grind
  ·rename_i i hc
   have hi:Operand.tmp i∈(Op.call c).operands.toList:=by simp[Op.operands,Call.operands,hc]
   split at h
   ·rename_i f cs hti
    obtain⟨hR,hf,h⟩:=h;obtain⟨p,u,h1,h2,h3⟩:=AQ h;refine⟨p,u,h1,by simp only[QY,hc];omega,λt2 m2 hs=>?_⟩
    have e1:=hs.te _ hi;simp only[gH,hti]at e1
    rw[e1,Sv hs];refine⟨hR,hf,h3 m2 λl hl=>?_⟩
    rw[List.flatMap_append,Wi]at hl
    rcases hl with hl|hl
    ·grind
    ·have hfn:gH t (.tmp i)=.fn f cs:=hti
     refine hs.refs rfl hi ?_;rw[hfn];simp only[jm,pJ,nX];obtain⟨c1,CL,hl1⟩:=WS.1 hl;refine WS.2 ⟨c1,CL,?_⟩;have hR1:=hR c1 CL
     cases c1<;>first|exact hl1|simp[CX]at hR1
   simp_all
  ·obtain⟨p,h1,h2⟩:=red h
   exact⟨p,[],h1,by simp,λt2 m2 hs=>imp (h2 t2 m2 hs)⟩
 |_=>
  simp only[jj]at *
  obtain⟨p,h1,h2⟩:=red h;exact⟨p,[],h1,by simp,λt2 m2 hs=>imp (h2 t2 m2 hs)⟩
end
/-! Zf9. -/
theorem xU(m:Mem)(q:Nat×Option MB)(l:Nat):(qX m q)[l]?=if l=q.1 then YW q.2 else if l<m.length then m[l]? else if l<q.1+1 then YW YX else none:=by
 unfold qX
 grind
theorem Rn(m:Mem)(q:Nat×Option MB):(qX m q).length=max m.length (q.1+1):=by simp[qX];omega
theorem OA(m:Mem){q r:Nat×Option MB}(h:q.1≠r.1):qX (qX m q) r=qX (qX m r) q:=by
 apply XR;intro l;simp only[xU,Rn]
 grind
theorem HH{q:Nat×Option MB}:∀(u:UI) (m:Mem),(∀r∈u,q.1≠r.1)->app u (qX m q)=qX (app u m) q
 | [],m,_=>rfl
 |r::u,m,h=>by
  show app u (qX (qX m q) r)=qX (app u (qX m r)) q;rw[OA m (h r Wo),HH u _ λr' Pm=>h r' (Wl _ Pm)]
theorem HQ:∀(u v:UI) (m:Mem),(∀q∈u,∀r∈v,q.1≠r.1)->app v (app u m)=app u (app v m)
 | [],v,m,_=>rfl
 |q::u,v,m,h=>by
  show app v (app u (qX m q))=app u (qX (app v m) q);rw[HQ u v _ λq' hq' r hr=>h q' (Wl _ hq') r hr,HH v m λr hr=>h q Wo r hr]
theorem zS{m:Mem}(h:q.1≠l):look (qX m q) l=look m l:=by
 unfold look;rw[xU,if_neg (λe=>h e.symm)]
 grind
theorem Be{m m':Mem}(h:look m l=look m' l):look (qX m q) l=look (qX m' q) l:=by
 by_cases e:q.1=l
 ·unfold look
  rw[xU,xU,if_pos e.symm,if_pos e.symm]
 ·rw[zS e,zS e,h]
theorem vK{l:Nat}:∀(u:UI) {m m':Mem},look m l=look m' l->look (app u m) l=look (app u m') l
 | [],_,_,h=>h
 |q::u,_,_,h=>vK u (Be h)
theorem C9{l:Nat}:∀(u:UI) (m:Mem),(∀q∈u,q.1≠l)->look (app u m) l=look m l
 | [],_,_=>rfl
 |q::u,m,h=>(C9 u _ λr hr=>h r (Wl _ hr)).trans (zS (h q Wo))
/-! The state behind the Zdx of L. -/
structure RA where
 d:Option Tmp
 p:PV
 u:UI
def vW(L:Nat->Bool):Nat->List RA->List PV->List PV
 |_,[],t=>t
 |i,a::as_,t=>vW L (i+1) as_ (if L i=YY then jq t a.d a.p else t)
def stM(L:Nat->Bool):Nat->List RA->Mem->Mem
 |_,[],m=>m
 |i,a::as_,m=>stM L (i+1) as_ (if L i=YY then app a.u m else m)
theorem TL(t:List PV)(d:Option Tmp)(p:PV):(jq t d p).length=t.length:=by cases d<;>simp[jq]
theorem Qd{t t':List PV}(hl:t.length=t'.length)(h:t.getD s .un=t'.getD s .un):(jq t d p).getD s .un=(jq t' d p).getD s .un:=by
 cases d with
 |none=>exact h
 |some d=>
  simp only[jq,XC,List.getElem?_set,hl]
  grind
theorem NX{t:List PV}(h:d≠YW s):(jq t d p).getD s .un=t.getD s .un:=by
 cases d with
 |none=>rfl
 |some d=>
  have:d≠s:=λe=>h (by rw[e])
  simp only[jq,XC,WA this]
theorem Qc{t:List PV}{d e:Option Tmp}{p q:PV}(h:d=YX\/d≠e):jq (jq t d p) e q=jq (jq t e q) d p:=by
 cases d with
 |none=>rfl
 |some d=>
  cases e with
  |none=>rfl
  |some e=>
   have:d≠e:=λh'=>by simp_all
   simp only[jq];exact List.set_comm _ _ this
theorem Fy{L L':Nat->Bool}{s:Nat}:∀(as_:List RA) (i:Nat) (t t':List PV),t.length=t'.length->t.getD s .un=t'.getD s .un->(∀k a,as_[k]?=YW a->L (i+k)≠L' (i+k)->a.d≠YW s)->(vW L i as_ t).getD s .un=(vW L' i as_ t').getD s .un
 | [],_,_,_,_,h,_=>h
 |a::as_,i,t,t',hl,h,hd=>by
  simp only[vW];have h0:=hd 0 a rfl;simp only[W0]at h0
  refine Fy as_ (i+1) _ _ ?_ ?_ λk b hk gZ=>hd (k+1) b Yv Yr
  ·split<;>split<;>simp[TL,hl]
  ·cases h1:L i<;>cases h2:L' i<;>simp only[WE,if_false,if_true]
   ·exact h
   ·rw[NX (h0 Yv)];exact h
   ·rw[NX (h0 Yv)];exact h
   ·exact Qd hl h
theorem Fx{L L':Nat->Bool}{l:Nat}:∀(as_:List RA) (i:Nat) (m m':Mem),look m l=look m' l->(∀k a,as_[k]?=YW a->L (i+k)≠L' (i+k)->∀q∈a.u,q.1≠l)->look (stM L i as_ m) l=look (stM L' i as_ m') l
 | [],_,_,_,h,_=>h
 |a::as_,i,m,m',h,hd=>by
  simp only[stM];have h0:=hd 0 a rfl;simp only[W0]at h0
  refine Fx as_ (i+1) _ _ ?_ λk b hk gZ=>hd (k+1) b Yv Yr
  cases h1:L i<;>cases h2:L' i<;>simp only[WE,if_false,if_true]
  ·exact h
  ·rw[C9 _ _ (h0 Yv)];exact h
  ·rw[C9 _ _ (h0 Yv)];exact h
  ·exact vK _ h
theorem DR{L:Nat->Bool}{d:Option Tmp}{p:PV}:∀(as_:List RA) (i:Nat) (t:List PV),(∀k a,as_[k]?=YW a->L (i+k)=YY->d=YX\/d≠a.d)->vW L i as_ (jq t d p)=jq (vW L i as_ t) d p
 | [],_,_,_=>rfl
 |a::as_,i,t,h=>by
  simp only[vW];have h0:=h 0 a rfl;simp only[W0]at h0
  cases h1:L i
  ·simp only[WE,if_false]
   exact DR as_ (i+1) t λk b hk hL=>h (k+1) b Yv Yr
  ·simp only[if_true]
   rw[Qc (h0 h1)];exact DR as_ (i+1) _ λk b hk hL=>h (k+1) b Yv Yr
theorem DP{L:Nat->Bool}{u:UI}:∀(as_:List RA) (i:Nat) (m:Mem),(∀k a,as_[k]?=YW a->L (i+k)=YY->∀q∈u,∀r∈a.u,q.1≠r.1)->stM L i as_ (app u m)=app u (stM L i as_ m)
 | [],_,_,_=>rfl
 |a::as_,i,m,h=>by
  simp only[stM];have h0:=h 0 a rfl;simp only[W0]at h0
  cases h1:L i
  ·simp only[WE,if_false]
   exact DP as_ (i+1) m λk b hk hL=>h (k+1) b Yv Yr
  ·simp only[if_true]
   rw[HQ u a.u m (h0 h1)];exact DP as_ (i+1) _ λk b hk hL=>h (k+1) b Yv Yr
def ins(L:Nat->Bool)(j:Nat):Nat->Bool:=λi=>if i=j then YY else L i
theorem MO{L L':Nat->Bool}:∀(as_:List RA) (i:Nat) (t:List PV),(∀k,k<as_.length->L (i+k)=L' (i+k))->vW L i as_ t=vW L' i as_ t
 | [],_,_,_=>rfl
 |a::as_,i,t,h=>by
  simp only[vW];have h0:=h 0 Yq;simp only[W0]at h0
  rw[h0];exact MO as_ (i+1) _ λk hk=>by rw[show i+1+k=i+(k+1)by omega];simp_all
theorem MN{L L':Nat->Bool}:∀(as_:List RA) (i:Nat) (m:Mem),(∀k,k<as_.length->L (i+k)=L' (i+k))->stM L i as_ m=stM L' i as_ m
 | [],_,_,_=>rfl
 |a::as_,i,m,h=>by
  simp only[stM];have h0:=h 0 Yq;simp only[W0]at h0
  rw[h0];exact MN as_ (i+1) _ λk hk=>by rw[show i+1+k=i+(k+1)by omega];simp_all
theorem Oc{L:Nat->Bool}{a0:RA}:∀(as_:List RA) (i k0:Nat) (t:List PV),as_[k0]?=YW a0->L (i+k0)=YZ->(∀k a,as_[k]?=YW a->k0<k->L (i+k)=YY->a0.d=YX\/a0.d≠a.d)->vW (ins L (i+k0)) i as_ t=jq (vW L i as_ t) a0.d a0.p
 | [],_,_,_,h,_,_=>by grind
 |a::as_,i,k0,t,h,hL,hd=>by
  simp only[vW]
  cases k0 with
  |zero=>
   obtain rfl:a=a0:=by simp_all
   simp only[W0]at hL⊢
   have ei:ins L i i=true:=by simp[ins]
   simp only[ei,if_true,hL,WE,if_false];have e:vW (ins L i) (i+1) as_ (jq t a.d a.p)=vW L (i+1) as_ (jq t a.d a.p):=MO as_ (i+1) _ λk hk=>by simp only[ins];grind
   rw[e];exact DR as_ (i+1) t λk b hk hb=>hd (k+1) b Yv Yn Yr
  |succ k0=>
   have e1:ins L (i+(k0+1)) i=L i:=by simp only[ins];simp
   rw[e1,show i+(k0+1)=i+1+k0 by omega]
   exact Oc as_ (i+1) k0 _ Yv Yr λk b hk bX hb=>hd (k+1) b Yv Yn Yr
theorem Ob{L:Nat->Bool}{a0:RA}:∀(as_:List RA) (i k0:Nat) (m:Mem),as_[k0]?=YW a0->L (i+k0)=YZ->(∀k a,as_[k]?=YW a->k0<k->L (i+k)=YY->∀q∈a0.u,∀r∈a.u,q.1≠r.1)->stM (ins L (i+k0)) i as_ m=app a0.u (stM L i as_ m)
 | [],_,_,_,h,_,_=>by grind
 |a::as_,i,k0,m,h,hL,hd=>by
  simp only[stM]
  cases k0 with
  |zero=>
   obtain rfl:a=a0:=by simp_all
   simp only[W0]at hL⊢
   have ei:ins L i i=true:=by simp[ins]
   simp only[ei,if_true,hL,WE,if_false];have e:stM (ins L i) (i+1) as_ (app a.u m)=stM L (i+1) as_ (app a.u m):=MN as_ (i+1) _ λk hk=>by simp only[ins];grind
   rw[e];exact DP as_ (i+1) m λk b hk hb=>hd (k+1) b Yv Yn Yr
  |succ k0=>
   have e1:ins L (i+(k0+1)) i=L i:=by simp only[ins];simp
   rw[e1,show i+(k0+1)=i+1+k0 by omega]
   exact Ob as_ (i+1) k0 _ Yv Yr λk b hk bX hb=>hd (k+1) b Yv Yn Yr
/-! The check: MT is not ordered is apart. -/
structure LE where
 rd:List Nat
 wr:List Nat
 ts:List Nat
 d:Option Nat
instance :Inhabited LE:=⟨⟨[],[],[],YX⟩⟩
def Zb1(ops:Array Oper)(o:Oper):List Nat:=match o.guard with
 |none=>[]
 |some (j,_)=>((ops[j]?).bind (·.dst)).toList
def UA:Operand->List Nat
 |.tmp i=>[i]
 |_=>[]
def AS(ops:Array Oper)(o:Oper):List Nat:=(o.op.operands.toList.flatMap UA)++Zb1 ops o
def LQ(ops:Array Oper)(o:Oper)(t:List PV)(wd ν:Nat):LE:=⟨opR o.op t,QY o.op t wd ν,AS ops o,o.dst⟩
def le0(ops:Array Oper)(o:Oper):LE:=⟨[],[],AS ops o,o.dst⟩
def qW(a b:List Nat):Bool:=a.all λx=>!b.contains x
theorem si{a b:List Nat}(h:qW a b=YY){x y:Nat}(hx:x∈a)(hy:y∈b):x≠y:=by
 rintro rfl;have:=V2.1 h x hx
 simp_all
def zp(a b:LE):Bool:=qW a.wr b.rd&&qW a.wr b.wr&&qW b.wr a.rd&&qW a.d.toList b.ts&&qW b.d.toList a.ts&&qW a.d.toList b.d.toList
def Te(acc:List Nat)(o:Oper):Nat:=o.after.toList.foldr (λe s=>if Region.binds .any e then s |||2 ^ e.on |||acc.getD e.on 0 else s) 0
def NI:List Oper->List Nat->List Nat
 | [],acc=>acc
 |o::rest,acc=>NI rest (acc++[Te acc o])
def Lf(ops:List Oper)(g:List LE):Bool:=
 let ms:=NI ops []
 (Ws ops.length).all λj=>(((ops[j]?).map (·.after.all λe=>!Region.binds .any e ||Y0 (e.on<j))).getD YZ)&&(Ws j).all λi=>(ms.getD j 0).testBit i ||zp (g.getD i default) (g.getD j default)
def w8(σ:Nat->Nat):List Nat->Mem->UI
 |l::ρ,x::m1=>(l,x.map (nb σ))::w8 σ ρ m1
 |_,_=>[]
theorem Fg{σ:Nat->Nat}:∀(ρ:List Nat) (m1 m:Mem),(∀l∈ρ,l<m.length)->oU σ ρ m1 m=app (w8 σ ρ m1) m
 | [],m1,m,_=>by rfl
 |l::ρ,[],m,_=>rfl
 |l::ρ,x::m1,m,h=>by
  simp only[oU];rw[Fg ρ m1 _ (λk hk=>by grind)]
  show app (w8 σ ρ m1) _=app (w8 σ ρ m1) (qX m (l,x.map (nb σ)));rw[show qX m (l,x.map (nb σ))=m.set l (x.map (nb σ))from uv (h l Wo) _]
theorem yp{σ:Nat->Nat}{m m2:Mem}{n:Nat}:∀{ρ:List Nat} {m0:Mem},(∀l∈ρ,look m2 l=look m l)->pq σ m n ρ m0->pq σ m2 n ρ m0
 | [],[],_,_=>trivial
 | [],_::_,_,h=>h.elim
 |_::_,[],_,h=>h.elim
 |l::ρ,YX::m0,_,h=>h.elim
 |l::ρ,YW KV::m0,hl,h=>⟨jt.1 ((hl l Wo).trans (jt.2 h.1)),h.2.1,yp (λk hk=>hl k (Wl _ hk)) h.2.2⟩
def pIO(P:Program)(wd ν:Nat)(f:FuncId)(ps:List PV)(m:Mem)(K:List Nat->PV->Mem->Prop):Prop:=
 ∃(ρ:List Nat) (m0:Mem) (qs:List PV) (r:PV) (m1:Mem),fa P f qs m0 r m1/\m0.length<=m1.length/\m1.length-m0.length<=wd/\ps=qs.map (yM (sig ρ ν))/\(∀q∈qs,ta YZ q/\Gp m0.length q=YY)/\ρ.Nodup/\pq (sig ρ ν) m m0.length ρ m0/\
  (∀mb,YW mb∈m1->∀cs∈mb.es,∀p∈cs,eK YZ p)/\qR YZ r/\K ρ (yN (sig ρ ν) r) (jQ (sig ρ ν) ν (m1.drop ρ.length) (oU (sig ρ ν) ρ m1 m))
def Mp(P:Program)(wd ν:Nat)(o:Op)(t:List PV)(m:Mem)(K:List Nat->PV->Mem->Prop):Prop:=match o with
 |.call ⟨.value (.func f),xs,_⟩=>sU P f/\pIO P wd ν f (xs.toList.map (gH t)) m K
 |_=>False
theorem FG{σ:Nat->Nat}:∀(ρ:List Nat) (m1:Mem) (q:Nat×Option MB),q∈w8 σ ρ m1->q.1∈ρ
 | [],m1,q,h=>by cases m1<;>simp[w8]at h
 |l::ρ,[],q,h=>by simp[w8]at h
 |l::ρ,x::m1,q,h=>by
  simp only[w8,V5]at h
  rcases h with rfl|h
  ·simp
  ·exact Wl _ (FG ρ m1 q h)
theorem PX{P:Program}{m:Mem}{wd ν:Nat}{K:List Nat->PV->Mem->Prop}(h:pIO P wd ν f ps m K):
 ∃(ρ:List Nat) (p:PV) (u:UI),K ρ p (app u m)/\(∀q∈u,q.1∈ρ++XB ν wd)/\∀m2,(∀l∈ρ,look m2 l=look m l)->pH P YY wd ν f ps m2 λp' m'=>p'=p/\m'=app u m2:=by
 obtain⟨ρ,m0,qs,r,m1,hc,hle,h16,LD,hqs,hn,vz,I2,Lz,hK⟩:=h;have bX:∀(m2:Mem),pq (sig ρ ν) m2 m0.length ρ m0->∀l∈ρ,l<m2.length:=λm2 hi l hl=>by
  obtain⟨i,hi1,rfl⟩:=List.getElem_of_mem hl;obtain⟨KV,_,h2,_⟩:=(sH hi).2 i ρ[i] (VV hi1)
  grind
 have e:∀(m2:Mem),pq (sig ρ ν) m2 m0.length ρ m0->jQ (sig ρ ν) ν (m1.drop ρ.length) (oU (sig ρ ν) ρ m1 m2)=app (w8 (sig ρ ν) ρ m1++uQ (sig ρ ν) ν (m1.drop ρ.length)) m2:=λm2 hi=>by
  rw[qf,Fg ρ m1 m2 (bX m2 hi)];simp only[app,List.foldl_append]
 have hlen:=(sH vz).1;refine⟨ρ,yN (sig ρ ν) r,w8 (sig ρ ν) ρ m1++uQ (sig ρ ν) ν (m1.drop ρ.length),by grind,λq hq=>?_,λm2 AE=>?_⟩
 ·rcases Wi.1 hq with hq|hq
  ·exact Xi _ (FG _ _ _ hq)
  ·have:=uR _ _ _ q hq
   grind
 ·have Zfa:=yp AE vz
  exact .inr ⟨ρ,m0,qs,r,m1,.inl rfl,hc,hle,h16,LD,hqs,hn,Zfa,I2,Lz,rfl,e m2 Zfa⟩
def LN:List Nat->Nat->Bool
 | [],_=>YZ
 |a::l,i=>if a=i then YY else LN l i
def Zaz(ops:Array Oper)(o:Oper)(ρ:List Nat)(wd ν:Nat):LE:=⟨ρ,ρ++XB ν wd,AS ops o,o.dst⟩
def mg(P:Program)(wd base:Nat)(fl:List Nat)(ops:Array Oper)(K:List LE->List PV->Mem->Prop):Nat->List Oper->List LE->List PV->Mem->Prop
 |_,[],g,t,m=>K g t m
 |i,o::rest,g,t,m=>match o.guard with
  |none=>if LN fl i=YY then Mp P wd (base+wd*i) o.op t m λρ p m'=>mg P wd base fl ops K (i+1) rest (g++[Zaz ops o ρ wd (base+wd*i)]) (jq t o.dst p) m'
   else jj P YZ wd (base+wd*i) o.op t m λp m'=>mg P wd base fl ops K (i+1) rest (g++[LQ ops o t wd (base+wd*i)]) (jq t o.dst p) m'
  |some (j,b)=>match(ops[j]?).bind (·.dst)with
   |none=>mg P wd base fl ops K (i+1) rest (g++[le0 ops o]) (jq t o.dst .ud) m
   |some d=>match t.getD d .un,b with
    |.v (.bool c),YY=>gate c (jj P YZ wd (base+wd*i) o.op (t.set d (.v (.bool YY))) m λp m'=>mg P wd base fl ops K (i+1) rest (g++[LQ ops o (t.set d (.v (.bool YY))) wd (base+wd*i)]) (jq (t.set d (.v (.bool YY))) o.dst p) m')
     (mg P wd base fl ops K (i+1) rest (g++[le0 ops o]) (jq (t.set d (.v (.bool YZ))) o.dst .ud) m)
    |.v (.bool c),YZ=>gate c (mg P wd base fl ops K (i+1) rest (g++[le0 ops o]) (jq (t.set d (.v (.bool YY))) o.dst .ud) m)
     (jj P YZ wd (base+wd*i) o.op (t.set d (.v (.bool YZ))) m λp m'=>mg P wd base fl ops K (i+1) rest (g++[LQ ops o (t.set d (.v (.bool YZ))) wd (base+wd*i)]) (jq (t.set d (.v (.bool YZ))) o.dst p) m')
    |.ud,_=>mg P wd base fl ops K (i+1) rest (g++[le0 ops o]) (jq t o.dst .ud) m
    |_,_=>False
def Want(ops:Array Oper)(o:Oper)(t:List PV):Prop:=o.guard=YX\/∃j b d,o.guard=YW (j,b)/\(ops[j]?).bind (·.dst)=YW d/\t.getD d .un=.v (.bool b)
def K0(ops:Array Oper)(o:Oper)(t:List PV):Prop:=∃j b,o.guard=YW (j,b)/\((ops[j]?).bind (·.dst)=YX\/∃d,(ops[j]?).bind (·.dst)=YW d/\(t.getD d .un=.ud\/t.getD d .un=.v (.bool (!b))))
def Zgs(P:Program)(wd ν:Nat)(ops:Array Oper)(o:Oper)(a:RA)(t:List PV)(m:Mem):Prop:=
 (Want ops o t/\∃io:Bool,jj P io wd ν o.op t m λp' m'=>p'=a.p/\m'=app a.u m)\/(K0 ops o t/\a.p=.ud/\a.u=[])
structure Stp(P:Program)(wd ν:Nat)(ops:Array Oper)(o:Oper)(a:RA)(g:LE)(t:List PV)(m:Mem):Prop where
 ad:a.d=o.dst
 gd:g.d=o.dst
 gt:g.ts=AS ops o
 wr:∀q∈a.u,q.1∈g.wr
 ZgV:∀t2 m2,(∀s∈g.ts,t2.getD s .un=t.getD s .un)->(∀l∈g.rd,look m2 l=look m l)->Zgs P wd ν ops o a t2 m2
section
variable {P:Program} {wd base:Nat} {fl:List Nat} {ops:Array Oper} {K:List LE->List PV->Mem->Prop}
theorem DQ{L:Nat->Bool}:∀(as_:List RA) (i:Nat) (t:List PV),(∀k,L (i+k)=YZ)->vW L i as_ t=t
 | [],_,_,_=>rfl
 |a::as_,i,t,h=>by
  simp only[vW];rw[show L i=YZ from h 0];exact DQ as_ (i+1) t λk=>by rw[show i+1+k=i+(k+1)by omega];simp_all
theorem DO{L:Nat->Bool}:∀(as_:List RA) (i:Nat) (m:Mem),(∀k,L (i+k)=YZ)->stM L i as_ m=m
 | [],_,_,_=>rfl
 |a::as_,i,m,h=>by
  simp only[stM];rw[show L i=YZ from h 0];exact DO as_ (i+1) m λk=>by rw[show i+1+k=i+(k+1)by omega];simp_all
theorem ID{t t2:List PV}(h:∀s∈UA x,t2.getD s .un=t.getD s .un):gH t2 x=gH t x:=by
 cases x with
 |tmp i=>exact h i (by simp[UA])
 |_=>rfl
theorem Kk{t:List PV}{d:Nat}(h:t.getD d .un=p)(gZ:p≠.un):t.set d p=t:=by
 apply XR
 grind
theorem Zby{o:Oper}{t t2:List PV}{m m2:Mem}{wd ν:Nat}(h1:∀s∈AS ops o,t2.getD s .un=t.getD s .un)(h2:∀l∈opR o.op t,look m2 l=look m l):Same o.op t m t2 m2:=
 ⟨λx hx=>ID λs hs=>h1 s (Xi _ (WS.2 ⟨x,hx,hs⟩)),h2⟩
theorem Ff:∀(l:List Oper) (i:Nat) (g:List LE) (t:List PV) (m:Mem),mg P wd base fl ops K i l g t m->
 ∃(as_:List RA) (gs:List LE),as_.length=l.length/\gs.length=l.length/\K (g++gs) (vW (λ_=>YY) i as_ t) (stM (λ_=>YY) i as_ m)/\
  ∀k o,l[k]?=YW o->∃a e,as_[k]?=YW a/\gs[k]?=YW e/\Stp P wd (base+wd*(i+k)) ops o a e (vW (λj=>Y0 (j<i+k)) i as_ t) (stM (λj=>Y0 (j<i+k)) i as_ m)
 | [],i,g,t,m,h=>by
  unfold mg at h
  exact⟨[],[],rfl,rfl,by simpa[vW,stM]using h,λk o hk=>by grind⟩
 |o::l,i,g,t,m,h=>by
  -- one step,and the rest
  have next:∀(a:RA) (e:LE),mg P wd base fl ops K (i+1) l (g++[e]) (jq t a.d a.p) (app a.u m)->Stp P wd (base+wd*i) ops o a e t m->∃(as_:List RA) (gs:List LE),as_.length=(o::l).length/\gs.length=(o::l).length/\K (g++gs) (vW (λ_=>YY) i as_ t) (stM (λ_=>YY) i as_ m)/\
   ∀k o',(o::l)[k]?=YW o'->∃a e,as_[k]?=YW a/\gs[k]?=YW e/\Stp P wd (base+wd*(i+k)) ops o' a e (vW (λj=>Y0 (j<i+k)) i as_ t) (stM (λj=>Y0 (j<i+k)) i as_ m):=by
   intro a e h hs;obtain⟨as_,gs,h1,h2,h3,h4⟩:=Ff l (i+1) _ _ _ h;refine⟨a::as_,e::gs,by grind,by grind,by simpa[vW,stM]using h3,λk o' hk=>?_⟩
   cases k with
   |zero=>
    obtain rfl:o=o':=by simp_all
    refine⟨a,e,rfl,rfl,?_⟩;rw[DQ _ _ _ (λk=>by simp),DO _ _ _ (λk=>by simp)]
    omega
   |succ k=>
    obtain⟨a',e',g1,g2,g3⟩:=h4 k o' Yv;simp only[vW,stM,show Y0 (i<i+(k+1))=YY by simp,if_true]
    grind
  have pass:∀(wU:∀t2:List PV,(∀s∈AS ops o,t2.getD s .un=t.getD s .un)->K0 ops o t2),mg P wd base fl ops K (i+1) l (g++[le0 ops o]) (jq t o.dst .ud) m->∃(as_:List RA) (gs:List LE),as_.length=(o::l).length/\gs.length=(o::l).length/\K (g++gs) (vW (λ_=>YY) i as_ t) (stM (λ_=>YY) i as_ m)/\
   ∀k o',(o::l)[k]?=YW o'->∃a e,as_[k]?=YW a/\gs[k]?=YW e/\Stp P wd (base+wd*(i+k)) ops o' a e (vW (λj=>Y0 (j<i+k)) i as_ t) (stM (λj=>Y0 (j<i+k)) i as_ m):=by
   intro wU h;exact next ⟨o.dst,.ud,[]⟩ (le0 ops o) h ⟨rfl,rfl,rfl,by simp,λt2 m2 h1 _=>.inr ⟨wU t2 h1,rfl,rfl⟩⟩
  have run:∀(hw:∀t2:List PV,(∀s∈AS ops o,t2.getD s .un=t.getD s .un)->Want ops o t2),(jj P YZ wd (base+wd*i) o.op t m λp m'=>mg P wd base fl ops K (i+1) l (g++[LQ ops o t wd (base+wd*i)]) (jq t o.dst p) m')->∃(as_:List RA) (gs:List LE),as_.length=(o::l).length/\gs.length=(o::l).length/\K (g++gs) (vW (λ_=>YY) i as_ t) (stM (λ_=>YY) i as_ m)/\
   ∀k o',(o::l)[k]?=YW o'->∃a e,as_[k]?=YW a/\gs[k]?=YW e/\Stp P wd (base+wd*(i+k)) ops o' a e (vW (λj=>Y0 (j<i+k)) i as_ t) (stM (λj=>Y0 (j<i+k)) i as_ m):=by
   intro hw h;obtain⟨p,u,h1,h2,h3⟩:=Mm h;exact next ⟨o.dst,p,u⟩ (LQ ops o t wd (base+wd*i)) h1 ⟨rfl,rfl,rfl,h2,λt2 m2 e1 e2=>.inl ⟨hw t2 e1,YZ,h3 t2 m2 (Zby (ops:=ops) (wd:=wd) (ν:=0) e1 e2)⟩⟩
  have gs:∀{j b d},o.guard=YW (j,b)->(ops[j]?).bind (·.dst)=YW d->d∈AS ops o:=λhg hd=>List.mem_append_right _ (by simp[Zb1,hg,hd])
  simp only[mg]at h
  split at h
  ·rename_i hg
   split at h
   ·unfold Mp at h
    split at h
    ·rename_i f xs Ts hop
     obtain⟨hfn,hc⟩:=h;obtain⟨ρ,p,u,hK,Hr,Zhh⟩:=PX hc;refine next ⟨o.dst,p,u⟩ (Zaz ops o ρ wd (base+wd*i)) hK ⟨rfl,rfl,rfl,Hr,λt2 m2 e1 e2=>.inl ⟨.inl hg,YY,?_⟩⟩
     have Sv:xs.toList.map (gH t2)=xs.toList.map (gH t):=WB λx hx=>ID λs hs=>e1 s (Xi _ (WS.2 ⟨x,by rw[hop];simp[Op.operands,Call.operands,Array.mem_toList_iff.1 hx],hs⟩))
     rw[hop];show sU P f/\pH P YY wd _ f (xs.toList.map (gH t2)) m2 _;rw[Sv];exact⟨hfn,Zhh m2 e2⟩
    simp_all
   ·exact run (λt2 _=>.inl hg) h
  ·rename_i j b hg
   split at h
   ·rename_i Eb;exact pass (λt2 _=>⟨j,b,hg,.inl Eb⟩) h
   ·rename_i d Eb
    split at h
    ·rename_i c hc
     have zK:=λc' (hc':c=c')=>Kk (t:=t) (d:=d) (p:=.v (.bool c')) (by rw[hc,hc']) Yq
     cases c with
     |true=>rw[zK YY rfl]at h;exact run (λt2 e=>.inr ⟨j,YY,d,hg,Eb,(e d (gs hg Eb)).trans hc⟩) (h.1 rfl)
     |false=>rw[zK YZ rfl]at h;exact pass (λt2 e=>⟨j,YY,hg,.inr ⟨d,Eb,.inr ((e d (gs hg Eb)).trans hc)⟩⟩) (h.2 rfl)
    ·rename_i c hc
     have zK:=λc' (hc':c=c')=>Kk (t:=t) (d:=d) (p:=.v (.bool c')) (by rw[hc,hc']) Yq
     cases c with
     |true=>rw[zK YY rfl]at h;exact pass (λt2 e=>⟨j,YZ,hg,.inr ⟨d,Eb,.inr ((e d (gs hg Eb)).trans hc)⟩⟩) (h.1 rfl)
     |false=>rw[zK YZ rfl]at h;exact run (λt2 e=>.inr ⟨j,YZ,d,hg,Eb,(e d (gs hg Eb)).trans hc⟩) (h.2 rfl)
    ·rename_i hc;exact pass (λt2 e=>⟨j,_,hg,.inr ⟨d,Eb,.inl ((e d (gs hg Eb)).trans hc)⟩⟩) h
    simp_all
/-! Zei the check ZhY. -/
def KY(ops:List Oper)(L:Nat->Bool):Prop:=∀(j:Nat) (o:Oper),ops[j]?=YW o->L j=YY->∀e∈o.after.toList,Region.binds .any e=YY->L e.on=YY
theorem Db{L:Nat->Bool}{acc:List Nat}(zH:∀j,L j=YY->∀i,(acc.getD j 0).testBit i=YY->L i=YY):∀(es:List Edge),(∀e∈es,Region.binds .any e=YY->L e.on=YY)->∀i,(es.foldr (λe s=>if Region.binds .any e then s |||2 ^ e.on |||acc.getD e.on 0 else s) 0).testBit i=YY->L i=YY
 | [],_,i,h=>by grind
 |e::es,he,i,h=>by
  simp only[List.foldr_cons]at h
  split at h
  ·simp only[Nat.testBit_or,Bool.or_eq_true]at h
   rcases h with(h|h) |h
   ·exact Db zH es (λe' h'=>he e' (Wl _ h')) i h
   all_goals grind
  ·exact Db zH es (λe' h'=>he e' (Wl _ h')) i h
theorem zT{ops:List Oper}{L:Nat->Bool}(uo:KY ops L):∀(l:List Oper) (acc:List Nat),(∀k,l[k]?=ops[acc.length+k]?)->(∀j,L j=YY->∀i,(acc.getD j 0).testBit i=YY->L i=YY)->∀j,L j=YY->∀i,((NI l acc).getD j 0).testBit i=YY->L i=YY
 | [],acc,_,zH=>zH
 |o::l,acc,hl,zH=>by
  refine zT uo l _ (λk=>?_) λj hj i hi=>?_
  ·have:=hl (k+1)
   grind
  ·rcases WL j acc.length with h|h|h
   ·refine zH j hj i ?_
    grind
   ·subst h
    have h0:=hl 0;have nj:(Te acc o).testBit i=true:=by simp_all
    exact Db zH o.after.toList (λe he hb=>uo acc.length o h0.symm hj e he hb) i nj
   grind
theorem Ey{ops:List Oper}{g:List LE}(h:Lf ops g=YY){i j:Nat}(zf:i<j)(hj:j<ops.length):((NI ops []).getD j 0).testBit i=YY\/zp (g.getD i default) (g.getD j default)=true:=by
 unfold Lf at h
 grind
theorem Vl{ops:List Oper}{g:List LE}(h:Lf ops g=YY){o:Oper}(hj:ops[j]?=YW o):∀e∈o.after.toList,Region.binds .any e=YY->e.on<j:=by
 have:=V2.1 h j (WH.2 (VU.1 hj).1);rw[Wd,hj]at this
 have h1:=this.1;simp only[WG]at h1
 rw[<-XS]at h1
 grind
/-! The region. -/
section
variable {w:World} {O:Nat->Prop} {E:Env} {w0:World} {m:Mem} {S0:Nat->Prop} {Q0:Nat->Key->Prop}
def unl(n:Nat)(listed:Array Bool):Nat:=((Ws n).filter λj=>!listed.getD j YZ).length
theorem ZbO{n i:Nat}{listed:Array Bool}(hi:i<n)(hs:listed.size=n)(h:listed.getD i YZ=YZ):unl n (listed.setIfInBounds i YY)<unl n listed:=by
 unfold unl;have e:(Ws n).filter (λj=>!(listed.setIfInBounds i YY).getD j YZ)=((Ws n).filter λj=>!listed.getD j YZ).filter λj=>Y0 (j≠i):=by
  rw[List.filter_filter];apply List.filter_congr;intro j hj
  by_cases Gc:j=i
  ·simp_all
  ·have:(listed.setIfInBounds i YY).getD j YZ=listed.getD j false:=by
    rw[Wz,Wz,XN (λe=>Gc e.symm)]
   grind
 rw[e];exact List.length_filter_lt_length_iff_exists.2 ⟨i,by
  grind,by simp⟩
structure ZbT(P:Program)(wd:Nat)(ops:List Oper)(as_:List RA)(gs:List LE)(t0:List PV)(m0:Mem):Prop where
 la:as_.length=ops.length
 lg:gs.length=ops.length
 cr:Lf ops gs=YY
 st:∀(k:Nat) (o:Oper),ops[k]?=YW o->∃a e,as_[k]?=YW a/\gs[k]?=YW e/\Stp P wd (m0.length+wd*k) ops.toArray o a e (vW (λj=>Y0 (j<k)) 0 as_ t0) (stM (λj=>Y0 (j<k)) 0 as_ m0)
theorem ZbP{ops:Array Oper}{o:Oper}{t:List PV}(h:Want ops o t)(ht:rQ w E t tm):Region.wanted o (yielded ops tm)=true:=by
 rcases h with h|⟨j,b,d,hg,hd,hs⟩
 ·exact CJ h _
 ·rw[uE hg hd ht hs];simp
theorem PT{ops:Array Oper}{o:Oper}{t:List PV}(h:K0 ops o t)(ht:rQ w E t tm):Region.wanted o (yielded ops tm)=false:=by
 obtain⟨j,b,hg,h|⟨d,hd,h|h⟩⟩:=h
 ·exact IM hg h _
 ·exact IN hg hd ht h
 ·rw[uE hg hd ht h];simp
def SBd(S0:Nat->Prop)(Q0:Nat->Key->Prop)(w0:World)(O:Nat->Prop)(E:Env):Prop:=(∀b,E.S b->S0 b\/w0.heap.size<=b\/O b)/\∀b q,E.ω b q->Q0 b q\/w0.heap.size<=b\/O b
theorem Uh{w':World}{E':Env}(hk:Ok w0 O E w m)(h2:SBd S0 Q0 w0 O E)(k2:Ext w w' E E'):SBd S0 Q0 w0 O E':=by
 refine⟨λb hb=>?_,λb q hb=>?_⟩
 ·rcases k2.S' b hb with h|h|⟨l,B,hB,hz,rfl⟩
  ·exact h2.1 b h
  ·exact .inr (.inl (Wr hk.up.size h))
  ·rcases(hk.own l B hB hz).1 with h|h
   all_goals grind
 ·rcases k2.ω' b q hb with h|h|⟨l,B,hB,hz,rfl⟩
  ·exact h2.2 b q h
  ·exact .inr (.inl (Wr hk.up.size h))
  ·rcases(hk.own l B hB hz).1 with h|h
   all_goals grind
theorem Iv(I7:0<wd){ops:List Oper}{as_:List RA}{gs:List LE}{t0:List PV}{m0:Mem}(Ee:ZbT P wd ops as_ gs t0 m0){J:Env->Prop}(hJ:∀w w' E E',Ext w w' E E'->J E->J E'){K:List PV->Mem->Prop}{Q:Exit->Act->World->Prop}
 (hK:K (vW (λ_=>YY) 0 as_ t0) (stM (λ_=>YY) 0 as_ m0))
 (hQ:∀t m a w E,K t m->Ok w0 O E w m->(∀b,S0 b->E.S b)->SBd S0 Q0 w0 O E->a.defers=[]->rQ w E t a.tmps->J E->Q .normal a w):
 ∀(fuel:Nat) (listed:Array Bool) (a:Act) (w:World) (E:Env),listed.size=ops.length->unl ops.length listed<=fuel->KY ops (λj=>listed.getD j YZ)->
  Ok w0 O E w (stM (λj=>listed.getD j YZ) 0 as_ m0)->(∀b,S0 b->E.S b)->SBd S0 Q0 w0 O E->a.defers=[]->rQ w E (vW (λj=>listed.getD j YZ) 0 as_ t0) a.tmps->
  (∀l,E.used l->l<m0.length\/∃j,listed.getD j YZ=YY/\m0.length+wd*j<=l/\l<m0.length+wd*j+wd)->J E->wpAny P .any ops.toArray Q fuel listed a w:=by
 -- all is listed where nothing may Zix
 have fin:∀(listed:Array Bool),listed.size=ops.length->Region.ready .any ops.toArray listed=[]->∀j,j<ops.length->listed.getD j YZ=true:=by
  intro listed hs hr j
  induction j using Nat.strongRecOn with
  |_ j ih=>
   intro hj
   by_cases hl:listed.getD j YZ=YY
   ·exact hl
   ·exfalso
    have Ge:j∈Region.ready .any ops.toArray listed:=by
     unfold Region.ready;refine Xl.2 ⟨WH.2 (by simpa using hj),?_⟩
     have h1:listed.getD j YY=false:=by
      have hjs:j<listed.size:=by rw[hs];exact hj
      have:listed.getD j YZ=false:=by simpa using hl
      simp only[Xt,hjs,dif_pos]at this⊢
      exact this
     rw[h1];obtain⟨o,ho⟩:∃o,ops[j]?=YW o:=⟨ops[j],VV hj⟩;have zg:(ops.toArray)[j]?=YW o:=by simpa using ho
     rw[zg];simp only[WG,Xj,Bool.not_false,Bool.true_and];rw[<-XS,V2];intro e he
     by_cases hb:Region.binds .any e=YY
     ·have bX:=Vl Ee.cr ho e he hb
      simp[hb,ih e.on bX Yn]
     ·simp[hb]
    rw[hr]at Ge
    cases Ge
 have done:∀(listed:Array Bool) (a:Act) (w:World) (E:Env),listed.size=ops.length->Region.ready .any ops.toArray listed=[]->Ok w0 O E w (stM (λj=>listed.getD j YZ) 0 as_ m0)->(∀b,S0 b->E.S b)->SBd S0 Q0 w0 O E->a.defers=[]->rQ w E (vW (λj=>listed.getD j YZ) 0 as_ t0) a.tmps->J E->Q .normal a w:=by
  intro listed a w E hs hr hk h1 h2 hd ht hj;have tr:=fin listed hs hr;rw[MN as_ 0 m0 (L':=λ_=>YY) λk hk=>by simp only[Wc];exact tr k (by rw[<-Ee.la];exact hk)]at hk
  rw[MO as_ 0 t0 (L':=λ_=>YY) λk hk=>by simp only[Wc];exact tr k (by rw[<-Ee.la];exact hk)]at ht
  exact hQ _ _ a w E hK hk h1 h2 hd ht hj
 intro fuel
 induction fuel with
 |zero=>
  intro listed a w E hs hu uo hk h1 h2 hd ht yo hjE;have hr:Region.ready .any ops.toArray listed=[]:=by
   unfold Region.ready;rw[List.filter_eq_nil_iff];intro j hj;have CM:j<ops.length:=by simpa using hj
   have tr:listed.getD j YZ=true:=by
    unfold unl at hu
    have Zac:=Xr.1 (Nat.le_zero.1 hu);rw[List.filter_eq_nil_iff]at Zac
    simpa using Zac j (WH.2 CM)
   have hjs:j<listed.size:=by rw[hs];exact CM
   have:listed.getD j YY=true:=by
    simp only[Xt,hjs,dif_pos]at tr⊢
    exact tr
   simp[this]
  exact⟨hr,done listed a w E hs hr hk h1 h2 hd ht hjE⟩
 |succ fuel ih=>
  intro listed a w E hs hu uo hk h1 h2 hd ht yo hjE;refine⟨λhr=>done listed a w E hs hr hk h1 h2 hd ht hjE,λi hi=>?_⟩
  obtain⟨hi1,hi2⟩:=Xl.1 hi;have vz:i<ops.length:=by simpa using hi1
  obtain⟨o,ho⟩:∃o,ops[i]?=YW o:=⟨ops[i],VV vz⟩;have zg:(ops.toArray)[i]?=YW o:=by simpa using ho
  rw[zg]at hi2
  simp only[WG,Xj,Wd,Bool.not_eq_true']at hi2
  obtain⟨Zfm,Sj⟩:=hi2;have QU:i<listed.size:=by rw[hs];exact vz
  have BD:listed.getD i YZ=false:=by
   simp only[Xt,QU,dif_pos]at Zfm⊢
   exact Zfm
  have Ze5:∀e∈o.after.toList,Region.binds .any e=YY->listed.getD e.on false=true:=by
   intro e he hb;rw[<-XS]at Sj
   have:=V2.1 Sj e he
   simpa[hb]using this
  obtain⟨ai,ei,ha,he,u0⟩:=Ee.st i o ho
  let L:Nat->Bool:=λj=>listed.getD j YZ
  have Zg7:=zT uo ops [] (λk=>by simp) (λj _ i h=>by simp[XC]at h)
  -- MT is listed behind i is apart from it;MT is not listed ahead of it,too
  have VJ:∀{k e'},gs[k]?=YW e'->gs.getD k default=e':=λh=>by simp[XC,h]
  have Lu:∀(k:Nat) (e':LE),gs[k]?=YW e'->i<k->L k=YY->zp ei e'=true:=by
   intro k e' UM bX hL;have hkn:k<ops.length:=by rw[<-Ee.lg];exact(VU.1 UM).1
   rcases Ey Ee.cr bX hkn with h|h
   ·have:=Zg7 k hL i h
    simp[BD]at this
   ·rwa[VJ he,VJ UM]at h
  have Zc6:KY ops (ins L i):=by
   intro j o' hj hL e he' hb;simp only[ins]at hL⊢
   split at hL
   ·rename_i Gc
    subst Gc;rw[ho]at hj
    cases hj
    split
    ·rfl
    ·exact Ze5 e he' hb
   ·split
    ·rfl
    ·exact uo j o' hj hL e he' hb
  have Ze1:=zT Zc6 ops [] (λk=>by simp) (λj _ i h=>by simp[XC]at h)
  have VQ:∀(k:Nat) (e':LE),gs[k]?=YW e'->k<i->L k=YZ->zp e' ei=true:=by
   intro k e' UM bX hL
   rcases Ey Ee.cr bX vz with h|h
   ·have:=Ze1 i (by simp[ins]) k h
    simp only[ins]at this
    rw[if_neg Yn]at this
    rw[hL]at this;cases this
   ·rwa[VJ he,VJ UM]at h
  have part:∀{x y:LE},zp x y=YY->qW x.wr y.rd=YY/\qW x.wr y.wr=YY/\qW y.wr x.rd=YY/\qW x.d.toList y.ts=YY/\qW y.d.toList x.ts=YY/\qW x.d.toList y.d.toList=true:=by
   intro x y h;simp only[zp,Wd]at h
   exact⟨h.1.1.1.1.1,h.1.1.1.1.2,h.1.1.1.2,h.1.1.2,h.1.2,h.2⟩
  -- the Zh0 own entries
  have stp:∀{k:Nat} {b:RA},as_[k]?=YW b->∃e':LE,gs[k]?=YW e'/\b.d=e'.d/\∀q∈b.u,q.1∈e'.wr:=by
   intro k b hb;have hkn:k<ops.length:=by rw[<-Ee.la];exact(VU.1 hb).1
   obtain⟨a',e',g1,g2,g3⟩:=Ee.st k ops[k] (VV hkn);rw[hb]at g1
   cases g1
   exact⟨e',g2,g3.ad.trans g3.gd.symm,g3.wr⟩
  have parts:∀(k:Nat) (b:RA),as_[k]?=YW b->L (0+k)≠(Y0 (0+k<i))->∃e':LE,gs[k]?=YW e'/\b.d=e'.d/\(∀q∈b.u,q.1∈e'.wr)/\(∀s∈e'.d.toList,s ∉ ei.ts)/\∀l∈e'.wr,l ∉ ei.rd:=by
   intro k b hb gZ;rw[Wc]at gZ
   obtain⟨e',g1,g2,g3⟩:=stp hb;refine⟨e',g1,g2,g3,?_⟩
   rcases WL k i with h|h|h
   ·have hL:L k=false:=by
     cases hLk:L k with
     |false=>rfl
     |true=>rw[hLk]at gZ;simp[h]at gZ
    obtain⟨p1,p2,p3,p4,p5,p6⟩:=part (VQ k e' g1 h hL);exact⟨λs hs hs'=>si p4 hs hs' rfl,λl hl Nv=>si p1 hl Nv rfl⟩
   ·subst h
    simp only[Nat.lt_irrefl,decide_false]at gZ
    exact absurd BD gZ
   ·have hL:L k=true:=by
     cases hLk:L k with
     |true=>rfl
     |false=>rw[hLk]at gZ;simp[Nat.not_lt.2 (Nat.le_of_lt h)]at gZ
    obtain⟨p1,p2,p3,p4,p5,p6⟩:=part (Lu k e' g1 h hL);exact⟨λs hs hs'=>si p5 hs hs' rfl,λl hl Nv=>si p3 hl Nv rfl⟩
  have Ze6:=u0.ZgV (vW L 0 as_ t0) (stM L 0 as_ m0) (λs hs=>Fy as_ 0 t0 t0 rfl rfl λk b hb gZ=>by
   obtain⟨e',g1,g2,g3,g4,g5⟩:=parts k b hb gZ;rw[g2];intro xg;exact g4 s (by rw[xg];simp) hs) (λl hl=>Fx as_ 0 m0 m0 rfl λk b hb gZ q hq=>by
   obtain⟨e',g1,g2,g3,g4,g5⟩:=parts k b hb gZ;intro hql;exact g5 q.1 (g3 q hq) (by rw[hql];exact hl))
  -- the next state
  have AD:(λj=>(listed.setIfInBounds i YY).getD j YZ)=ins L i:=by
   funext j
   simp only[ins]
   split
   ·rename_i Gc;subst Gc;simp[Xt,QU]
   ·rename_i Gc
    rw[Wz,XN (λe=>Gc e.symm),<-Wz]
  have hTi:vW (ins L i) 0 as_ t0=jq (vW L 0 as_ t0) ai.d ai.p:=by
   have:=Oc (L:=L) as_ 0 i t0 ha (by rw[Wc];exact BD) λk b hb bX hL=>by
    rw[Wc]at hL
    obtain⟨e',g1,g2,g3⟩:=stp hb;obtain⟨p1,p2,p3,p4,p5,p6⟩:=part (Lu k e' g1 bX hL);rw[g2,u0.ad.trans u0.gd.symm]
    cases Pg:ei.d with
    |none=>exact .inl rfl
    |some x=>
     refine .inr λQS=>?_
     exact si p6 (x:=x) (y:=x) (by simp[Pg]) (by rw[<-QS];simp) rfl
   simpa using this
  have hMi:stM (ins L i) 0 as_ m0=app ai.u (stM L 0 as_ m0):=by
   have:=Ob (L:=L) as_ 0 i m0 ha (by rw[Wc];exact BD) λk b hb bX hL q hq r hr=>by
    rw[Wc]at hL
    obtain⟨e',g1,g2,g3⟩:=stp hb;obtain⟨p1,p2,p3,p4,p5,p6⟩:=part (Lu k e' g1 bX hL);exact si p2 (u0.wr q hq) (g3 r hr)
   simpa using this
  have hdd:∀x,(a.put o.dst x).defers=[]:=λx=>by cases o.dst<;>exact hd
  have bX:=ZbO vz hs BD;unfold wpOp;rw[zg]
  rcases Ze6 with⟨hw,io,hp⟩ |⟨hw,hp,hu0⟩
  ·simp only[ZbP hw ht,if_true]
   obtain⟨p,m',⟨rfl,rfl⟩,hg⟩:=Dt hk I7 (λr hr I6=>by
    rcases yo _ I6 with h|⟨j,hj,h3,h4⟩
    ·have:wd*i+r<wd*i+wd:=Yn
     omega
    ·have Gc:j=i:=by
      rcases WL j i with h|h|h
      ·have:wd*j+wd<=wd*i:=by
        have:=Nat.mul_le_mul_left wd (show j+1<=i by omega)
        rw[Nat.mul_add]at this;omega
       omega
      ·exact h
      ·have:wd*i+wd<=wd*j:=by
        have:=Nat.mul_le_mul_left wd (show i+1<=j by omega)
        rw[Nat.mul_add]at this;omega
       omega
     subst Gc;rw[BD]at hj;cases hj) ht hp
   refine .inl (hg _ _ λx w' E' k1 k2 k3 k4=>ih _ _ w' E' (by simpa using hs) Yn ?_ ?_ (λb hb=>k2.S b (h1 b hb)) ?_ (hdd x) ?_ (λl hl=>?_) (hJ _ _ _ _ k2 hjE))
   ·rw[AD];exact Zc6
   ·rw[AD,hMi];exact k1
   ·exact Uh hk h2 k2
   ·rw[AD,hTi,u0.ad];exact(ht.ext k2).put k3 o.dst
   ·have zK:(listed.setIfInBounds i YY).getD i YZ=true:=by simp[Xt,QU]
    have Sq:∀j,listed.getD j YZ=YY->(listed.setIfInBounds i YY).getD j YZ=true:=λj hj=>by
     have this:(listed.setIfInBounds i YY).getD j YZ=ins L i j:=congrFun AD j;rw[this];simp only[ins]
     split
     ·rfl
     ·exact hj
    rcases k4 l hl with h|h
    ·rcases yo l h with h|⟨j,hj,h3⟩
     ·exact .inl h
     ·exact .inr ⟨j,Sq j hj,h3⟩
    ·exact .inr ⟨i,zK,h⟩
  ·simp only[PT hw ht,WE,if_false]
   refine ih _ _ w E (by simpa using hs) Yn ?_ ?_ h1 h2 (hdd _) ?_ (λl hl=>?_) hjE
   ·rw[AD];exact Zc6
   ·rw[AD,hMi,hu0];exact hk
   ·rw[AD,hTi,u0.ad,hp];exact ht.put (.c .ud) o.dst
   ·have Sq:∀j,listed.getD j YZ=YY->(listed.setIfInBounds i YY).getD j YZ=true:=λj hj=>by
     have this:(listed.setIfInBounds i YY).getD j YZ=ins L i j:=congrFun AD j;rw[this];simp only[ins]
     split
     ·rfl
     ·exact hj
    rcases yo l hl with h|⟨j,hj,h3⟩
    ·exact .inl h
    ·exact .inr ⟨j,Sq j hj,h3⟩
end
end
end Go.Proofs.YtdilaemengjipaaGreatDoor
