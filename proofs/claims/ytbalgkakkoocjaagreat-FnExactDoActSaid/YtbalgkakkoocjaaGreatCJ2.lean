/- A part of the proof of the statement in the last file of this claim: texts on the language of the program and on its functions. No condition. -/
import Derived.Test.YtbalgkakkoocjaaGreatCJ1
import Derived.Laws.BytesArg
set_option linter.unusedVariables false
set_option linter.unusedSimpArgs false
set_option linter.unusedSectionVars false
open Go.Value renaming int->ZF
open Go.IntKind renaming i64->ZG
open Go renaming undef->ZH
open Option renaming some->ZA,none->ZB
open Bool renaming true->ZC,false->ZD
open Decidable renaming decide->ZE
open Option renaming map_eq_some_iff->VT,map_some->Wo,bind_some->VE
open Option.some renaming injEq->VR
open List renaming map_eq_cons_iff->Xu,all_eq_true->VS,mem_of_getElem?->VI,getElem?_map->VZ,replicate->VW,mem_cons_of_mem->V5,getElem?_set_ne->Wk,getElem?_set_self->Wa,mem_cons_self->Wc,getElem?_eq_some_iff->VH,getD->W8,getElem?_eq_getElem->VF,getElem?_of_mem->Xf,pairwise_iff_getElem->Wm,length_eq_zero_iff->W4,getElem?_append_left->Wi,getElem?_append_right->V9,getElem?_eq_none->Wz,range'->Yh,foldl_cons->Wj,foldl_nil->Wf,mem_flatMap->W5,mem_append_right->Xr,map_congr_left->WJ,mem_append->WD,mem_cons->VM,length_nil->VO,drop_zero->Ys,not_mem_nil->VP,range->Wq
open Nat renaming lt_or_ge->Wg,zero_le->WG,add_zero->Xg
open Classical renaming axiomOfChoice->WR,choose->XT,choose_spec->Xl
open _root_.Array renaming getElem?_eq_getElem->VU,getElem?_toList->Wx,getD->Xw,getD_eq_getD_getElem?->Wv,toList_append->XN
open Bool renaming false_eq_true->WU
namespace Go.Proofs.YtbalgkakkoocjaaGreat
set_option maxRecDepth 10000
open Go.RowKit
variable {B:cL}{K:PV->Prop}{es:List (List PV)}{l:Nat}{mb:MB}{p:PV}{x:Value}{α:Type}{ω:Nat->Key->Prop}{a:Array α}
def yu:PV->Bool
 |.v _|.ud|.un|.sl _|.rp _=>ZC
 |_=>ZD
def uW:PV->Bool
 |.fn _ cs=>cs.all yu
 |p=>yu p
def PY:PV->Bool
 |.v _|.ud|.un|.ms _|.be ..=>ZC
 |_=>ZD
def E1(S:Nat->Prop)(β:Nat->Option cL)(n:Nat)(ω:Nat->Key->Prop:=λ_ _=>False):Env:={ S:=S,β:=β,used:=λl=>l<n,ω:=ω}
def cq(P:Program)(f:FuncId)(args:List PV)(m0:Mem)(r:PV)(m1:Mem):Prop:=
 ∀(S:Nat->Prop) (β:Nat->Option cL) (w:World) (vs:Array Value) (ω:Nat->Key->Prop),Ok w (mz β) (E1 S β m0.length ω) w m0->vs.size=args.length->(∀(i:Nat) (p:PV),args[i]?=ZA p->∃x,vs[i]?=ZA x/\cN w (E1 S β m0.length ω) p x)->
  Calls P f vs w λe w'=>∃v E',e=.returned v/\Ok w (mz β) E' w' m1/\(∀b,S b->E'.S b)/\(∀b,E'.S b->S b\/w.heap.size<=b\/mz β b)/\((∀l B,l<m0.length->E'.β l=ZA B->β l=ZA B)/\∀b q,E'.ω b q->ω b q\/w.heap.size<=b\/mz β b)/\cN w' E' r v
section
variable {w:World} {O:Nat->Prop} {E:Env} {w0:World} {m:Mem} {P:Program}
def Sk(P:Program)(E:Env)(w:World)(a:Act)(o:Oper)(p:PV):Prop:=
 ∃x,(execOp a.eval o).run P w=.ok (.value x) w/\cN w E p x
def xg:List (List PV)->Option (List Int)
 | []=>ZA []
 | [.v (.int .u8 n)]::rest=>(xg rest).map (n::·)
 |_=>ZB
theorem H8:∀{es:List (List PV)} {ns:List Int},xg es=ZA ns->ns.length=es.length/\∀i,i<es.length->es[i]?=ZA [.v (.int .u8 (ns.getD i 0))]
 | [],ns,h=>by simp only[xg]at h;grind
 |e::es,ns,h=>by
  unfold xg at h
  split at h
  ·grind
  ·rename_i n rest heq
   obtain⟨ms,hms,rfl⟩:=VT.1 h;obtain⟨h1,h2⟩:=H8 hms
   grind
  grind
def uT(P:Program)(m:Mem)(s d:TypeId)(x:PV)(K:PV->Prop):Prop:=
 match x with
 |.ms l=>match P.underlying s,P.underlying d with
  |some (.slice e),ZA .string=>P.underlying e=ZA (.int .u8)/\live m l λmb=>mb.k=1/\match xg mb.es with
   |some ns=>K (.v (.string (strOfNums ns)))
   |none=>False
  |_,_=>False
 |x=>Jo P s d x K
theorem ND(hk:Ok w0 O E w m){s d:TypeId}(hx:cN w E p x)(h:uT P m s d p K):∃r v,K r/\(convert s d x).run P w=.ok v w/\cN w E r v:=by
 unfold uT at h
 split at h
 ·split at h
  ·rename_i e hs hd
   obtain⟨he,h⟩:=h;obtain⟨mb,hm,hk1,h⟩:=iE h
   split at h
   ·rename_i ns hns
    obtain⟨B,hB,hb,rfl⟩:=hx.ln hk hm;obtain⟨hl,IN⟩:=H8 hns
    cases hz:B.z with
    |true=>
     have h0:=hb.nil hz;rw[h0]at hns
     simp only[xg,VR]at hns
     subst hns;refine⟨_,.string (strOfNums []),h,?_,.c (.v _ rfl)⟩;rw[show B.sv=.slice ZB 0 0 by simp[cL.sv,hz]]
     exact run_convert_bytes_nil w s e hs he 0 0 d hd
    |false=>
     obtain⟨cells,m1,m2,m3⟩:=hb.mem hz;have hk':B.k=1:=hb.k.trans hk1;refine⟨_,.string (strOfNums ns),h,?_,.c (.v _ rfl)⟩;rw[show B.sv=.slice (ZA ⟨B.b,0,ZB⟩) B.n B.c by simp[cL.sv,hz]]
     refine run_convert_bytes_arg w s e hs he B.b 0 B.n B.c ns (by rw[hl,hb.n]) (λi hi=>?_) d hd
     rw[hb.n]at hi
     obtain⟨y,y1,_,y3⟩:=m3 i _ 0 _ (IN i hi) rfl;rw[hk']at y1
     rw[cell_of_row w B.b _ cells B.T (0,0) m1];rw[y3.cF.1]at y1
     omega
   grind
  grind
 ·obtain⟨r,v,h1,h2,h3⟩:=QE hx h
  grind
def ta(mx:Bool)(ps:List PV)(K:PV->Prop):Prop:=
 match ps with
 | [.v (.int k a),.v (.int k' b)]=>if mx then K (.v (.int k (if b > a then b else a)))else K (.v (.int k (if b<a then b else a)))
 |_=>False
def sh(P:Program)(o:Op)(t:List PV)(m:Mem)(K:PV->Prop):Prop:=
 match o with
 |.move x=>K (fS t x)
 |.assign x=>K (fS t x)
 |.pick c x y=>match fS t c with
  |.v (.bool b)=>K (if b then fS t x else fS t y)
  |_=>False
 |.load T a=>va P T (Si m (fS t a)) K
 |.nilCheck x=>Kw m (fS t x) K
 |.binOp op T x y _=>QC P op T (fS t x) (fS t y) K
 |.unOp op _ x=>pUn op (fS t x) K
 |.convert s d x=>uT P m s d (fS t x) K
 |.makeFunc fn first cs=>match fn,first.toList with
  |.func f,[]=>K (.fn f (cs.toList.map (fS t)))
  |_,_=>False
 |.slice T x lo hi mx=>match mx with
  |none=>lq P m T (fS t x) (lo.map (fS t)) (hi.map (fS t)) K
  |some _=>False
 |.fieldAddr S x f=>lp P m S (fS t x) f K
 |.field T x f=>zO P T (fS t x) f K
 |.indexAddr T x i=>cI P m T (fS t x) (fS t i) K
 |.index T x i=>vX P T (fS t x) (fS t i) K
 |.extract x i=>QF i (fS t x) K
 |.build T ps=>zN P T (ps.toList.map λq=>(q.1,fS t q.2)) K
 |.call c=>match c.callee with
  |.builtin .len=>match c.args.toList,c.argTypes.toList with
   | [x],[T]=>A8 P m T (fS t x) K
   |_,_=>False
  |.builtin .min=>ta ZD (c.args.toList.map (fS t)) K
  |.builtin .max=>ta ZC (c.args.toList.map (fS t)) K
  |_=>False
 |_=>False
theorem ZjH{s:Sem Value}{w w':World}(h:s.run P w=.ok x w'):(do pure (Next.value (<-s)):Sem Next).run P w=.ok (.value x) w':=by
 simp_all
theorem KI{x:α}(h:a.toList=[x]):a=#[x]:=Array.ext' YG
theorem Aj{x y:α}(h:a.toList=[x,y]):a=#[x,y]:=Array.ext' YG
theorem TZ(hk:Ok w0 O E w m){t:List PV}{a:Act}(ht:uP w E t a.tmps){o:Oper}(h:sh P o.op t m K):∃p,K p/\Sk P E w a o p:=by
 have ev:=CO ht;have fin:∀{s:Sem Value},(∃r v,K r/\(∀w',s.run P w'=.ok v w')/\cN w E r v)->(execOp a.eval o=do pure (Next.value (<-s)))->∃p,K p/\Sk P E w a o p:=by
  intro s ⟨r,v,hK,kn,xl⟩ he;exact⟨r,hK,v,by simp_all,xl⟩
 unfold sh at h
 split at h
 ·rename_i x ho
  exact⟨_,h,a.eval x,by simp[execOp,ho],ev x⟩
 ·rename_i x ho
  exact⟨_,h,a.eval x,by simp[execOp,ho],ev x⟩
 ·rename_i c x y ho
  split at h
  ·rename_i b hc
   have h1:=ev c;rw[hc]at h1
   have h2:=h1.cF.1;refine⟨_,h,if b then a.eval x else a.eval y,by cases b<;>simp[execOp,ho,h2,asBool],?_⟩
   grind
  grind
 ·rename_i T x ho
  cases hp:Si m (fS t x)with
  |none=>unfold va at h;grind
  |some cs=>
   rw[hp]at h
   obtain⟨b,off,hx,hb,hc⟩:=Zan hk (ev x) hp;obtain⟨p,v,hK,kn,xl⟩:=Lu h hb hc;exact⟨p,hK,v,by simp only[execOp,ho,hx];exact ZjH (by exact kn w (Up.rfl' w)),xl⟩
 ·rename_i x ho
  unfold Kw at h
  split at h
  ·rename_i l i oo hx
   obtain⟨mb,hm,hK⟩:=iE h;have h1:=ev x;rw[hx]at h1
   obtain⟨B,hB,hb,hz,e⟩:=h1.HJ hk hm;exact⟨_,hK,a.eval x,by simp[execOp,ho,e],h1⟩
  ·rename_i cs hx
   have h1:=ev x;rw[hx]at h1
   have h2:∃b off,a.eval x=.pointer (ZA ⟨b,off,ZB⟩):=by
    generalize a.eval x=v at h1
    cases h1.Uk with
    |rp _ b off=>simp
   obtain⟨b,off,h2⟩:=h2;exact⟨_,h,a.eval x,by simp[execOp,ho,h2],h1⟩
  grind
 ·rename_i op T x y Ty ho
  exact fin (TC (ox:=x) (oy:=y) (ev x) (ev y) h) YU
 ·rename_i op T x ho
  exact fin (Zcp (ev x) h) YU
 ·rename_i s d x ho
  obtain⟨r,v,hK,kn,xl⟩:=ND hk (ev x) h;exact⟨r,hK,v,by simp only[execOp];simp_all,xl⟩
 ·rename_i fn first cs ho
  split at h
  ·rename_i f hf
   have hfe:first=#[]:=Array.ext' YG
   subst hfe;refine⟨_,h,.func (.func f) #[] (cs.map a.eval),by simp[execOp,ho,Instr.makeFunc],.fn f _ _ YJ λj p x hp hx=>?_⟩
   grind
  grind
 ·rename_i T x lo hi mx ho
  split at h
  ·refine fin (NI hk (GH:=lo.map a.eval) (GF:=hi.map a.eval) (ev x) ?_ ?_ ?_ ?_ h) (by simp only[execOp,ho,Option.map_none])
   ·cases lo with
    |none=>grind
    |some z=>grind
   ·simp
   ·cases hi with
    |none=>grind
    |some z=>grind
   simp
  grind
 ·rename_i S x f ho
  exact fin (ES hk (ev x) h) YU
 ·rename_i T x f ho
  exact fin (NF (ev x) h) YU
 ·rename_i T x i ho
  exact fin (EU hk (ev x) (ev i) h) YU
 ·rename_i T x i ho
  exact fin (NG (ev x) (ev i) h) YU
 ·rename_i x i ho
  exact fin (TE (ev x) h) YU
 ·rename_i T ps ho
  refine fin (NB (vs:=ps.map fun(i,x)=>(i,a.eval x)) YJ (λj i p hj=>?_) h) YU
  grind
 ·rename_i c ho
  split at h
  ·rename_i hc
   split at h
   ·rename_i x T hx hT
    obtain⟨callee,args,argTypes⟩:=c;have ha:=KI hx;have hTs:=KI hT;subst hc ha hTs;obtain⟨r,v,hK,kn,xl⟩:=TG (ty:=o.type) hk (ev x) h;exact⟨r,hK,v,by simp[execOp,ho,resolve,invoke,builtin,kn],xl⟩
   grind
  ·rename_i hc
   unfold ta at h
   split at h
   ·rename_i k a1 k' b1 hargs
    obtain⟨callee,args,argTypes⟩:=c;subst hc;obtain⟨x,l,e1,hx,e2⟩:=Xu.1 hargs;obtain⟨y,l2,e3,hy,e4⟩:=Xu.1 e2;rw[List.map_eq_nil_iff.1 e4]at e3
    rw[e3]at e1
    have ha:=Aj e1;subst ha;have vx:=ev x;rw[hx]at vx
    have vy:=ev y;rw[hy]at vy
    have vx:=vx.cF.1;have vy:=vy.cF.1;exact⟨_,h,.int k (if b1<a1 then b1 else a1),by simp[execOp,ho,resolve,invoke,builtin,vx,vy,run_min_int2],.c (.v _ rfl)⟩
   grind
  ·rename_i hc
   unfold ta at h
   split at h
   ·rename_i k a1 k' b1 hargs
    obtain⟨callee,args,argTypes⟩:=c;subst hc;obtain⟨x,l,e1,hx,e2⟩:=Xu.1 hargs;obtain⟨y,l2,e3,hy,e4⟩:=Xu.1 e2;rw[List.map_eq_nil_iff.1 e4]at e3
    rw[e3]at e1
    have ha:=Aj e1;subst ha;have vx:=ev x;rw[hx]at vx
    have vy:=ev y;rw[hy]at vy
    have vx:=vx.cF.1;have vy:=vy.cF.1;exact⟨_,h,.int k (if b1 > a1 then b1 else a1),by simp[execOp,ho,resolve,invoke,builtin,vx,vy,run_max_int2],.c (.v _ rfl)⟩
   grind
  grind
 grind
def DR(m:Mem)(p:PV)(K:PV->Prop):Prop:=
 match p with
 |.ms l=>live m l λmb=>K (@ite PV (∀cs∈mb.es,∀q∈cs,uW q=ZC) (Classical.propDecidable _) (.sl mb.es) .un)
 |.ss l a b=>live m l λmb=>(∀cs∈mb.es,∀q∈cs,uW q=ZC)/\K (.sl ((mb.es.drop a).take (b-a)))
 |.v x=>K (.v x)
 |.sl es=>K (.sl es)
 |.rp cs=>K (.rp cs)
 |.un=>K .un
 |.ud=>K .ud
 |_=>False
def JI(m:Mem):List PV->(List PV->Prop)->Prop
 | [],K=>K []
 |c::cs,K=>DR m c λc'=>JI m cs λsm=>K (c'::sm)
def JJ(m:Mem)(p:PV)(K:PV->Prop):Prop:=
 match p with
 |.ag cs=>JI m cs λsm=>K (.ag sm)
 |p=>DR m p K
def DQ(m:Mem):List PV->(List PV->Prop)->Prop
 | [],K=>K []
 |c::cs,K=>JJ m c λc'=>DQ m cs λsm=>K (c'::sm)
def Zdk(E:Env)(b:Nat):Prop:=E.S b\/mz E.β b
theorem cf.all{S S':Nat->Prop}(h:cf w S p x)(hS:∀b,S b->S' b):cf w S' p x:=h.ext hS λ_ _ _=>rfl
theorem cN.Zqp(h:cN w E p x)(hc:yu p=ZC):cf w E.S p x:=by
 cases h with
 |c h=>exact h
 |_=>simp[yu]at hc
theorem cN.toC(h:cN w E p x)(hc:uW p=ZC):cf w E.S p x:=by
 cases h with
 |c h=>exact h
 |fn f cs vs hl hr=>
  simp only[uW,VS]at hc
  exact .fn f cs vs hl λj p x hp hx=>(hr j p x hp hx).Zqp (hc p (VI hp))
 |_=>simp[uW,yu]at hc
theorem JD(hB:E.β l=ZA B)(hb:dA w E mb B)(xk:∀cs∈mb.es,∀q∈cs,uW q=ZC){S:Nat->Prop}(hS:∀b,E.S b->S b)(hSB:B.z=ZD->S B.b){a b:Nat}(IJ:a<=b)(hbn:b<=B.n){A:Option Addr}{c:Nat}
 (hA:a<b->B.z=ZD/\A=ZA ⟨B.b,a*B.k,ZB⟩/\b-a<=c/\c<=maxLen):cf w S (.sl ((mb.es.drop a).take (b-a))) (.slice A (b-a) c):=by
 have hel:((mb.es.drop a).take (b-a)).length=b-a:=by rw[List.length_take,List.length_drop,<-hb.n];omega
 rcases Wg a b with bO|Ev
 ·obtain⟨hz,rfl,Kc,Of⟩:=hA bO
  obtain⟨cells,m1,m2,m3⟩:=hb.mem hz;have get:∀{i:Nat} {cs:List PV},((mb.es.drop a).take (b-a))[i]?=ZA cs->mb.es[a+i]?=ZA cs:=by
   grind
  have hex:∀ij:Nat×Nat,∃u:Value,∀cs p,mb.es[a+ij.1]?=ZA cs->cs[ij.2]?=ZA p->cells[(a+ij.1)*B.k+ij.2]?=ZA u/\u.oneCell'=ZC/\cf w S p u:=by
   intro⟨i,j⟩
   cases hi:mb.es[a+i]? with
   |none=>simp
   |some cs=>
    cases hj:cs[j]? with
    |none=>exact⟨ZH,λsm p h h'=>by grind⟩
    |some p=>
     obtain⟨u,u1,u2,u3⟩:=m3 _ cs j p hi hj;refine⟨u,λsm p' h h'=>?_⟩
     simp at h
     subst h;simp only[hj,VR]at h'
     subst h';exact⟨u1,u2,(u3.toC (xk cs (VI hi) p (VI hj))).all hS⟩
  obtain⟨f,hf⟩:=WR hex;have key:=cf.sl (w:=w) (S:=S) ((mb.es.drop a).take (b-a)) B.b (a*B.k) B.k c (λi j=>f (i,j)) (hSB hz) hb.pos YG Of (λi cs hi=>hb.es _ cs (get hi))
   (λi cs j p hi hj=>by
    have:=(hf (i,j) cs p (get hi) hj).1;rw[cell_of_row w B.b _ cells B.T (0,0) m1]
    grind) (λi cs j p hi hj=>(hf (i,j) cs p (get hi) hj).2.1) λi cs j p hi hj=>(hf (i,j) cs p (get hi) hj).2.2
  grind
 ·have hba:b-a=0:=YG
  rw[hba];exact .nil _ _
theorem Zi5(hb:dA w E mb B):∃A c,B.sv=.slice A B.n c/\(0<B.n->B.z=ZD/\A=ZA ⟨B.b,0,ZB⟩/\B.n<=c/\c<=maxLen):=by
 cases hz:B.z with
 |true=>exact⟨ZB,0,by simp[cL.sv,hz,hb.n,hb.nil hz],λh=>by rw[hb.n,hb.nil hz]at h;grind⟩
 |false=>exact⟨_,_,by simp[cL.sv,hz],λ_=>⟨rfl,rfl,hb.nc,hb.cm⟩⟩
theorem Hc(hB:E.β l=ZA B)(hb:dA w E mb B)(xk:∀cs∈mb.es,∀q∈cs,uW q=ZC){S:Nat->Prop}(hS:∀b,E.S b->S b)(hSB:B.z=ZD->S B.b):cf w S (.sl mb.es) B.sv:=by
 obtain⟨A,c,La,hA⟩:=Zi5 hb;have:=JD hB hb xk hS hSB (a:=0) (b:=B.n) (WG _) (Nat.le_refl _) (A:=A) (c:=c) YN;rw[La]
 simpa[hb.n]using this
theorem LK(hk:Ok w0 O E w m)(hx:cN w E p x)(h:DR m p K):∃q,K q/\cf w (Zdk E) q x/\uW q=true:=by
 unfold DR at h
 split at h
 ·rename_i l
  obtain⟨mb,hm,hK⟩:=iE h
  by_cases xk:∀cs∈mb.es,∀q∈cs,uW q=ZC
  ·rw[if_pos xk]at hK
   obtain⟨B,hB,hb,rfl⟩:=hx.ln hk hm;exact⟨_,hK,Hc hB hb xk (λb hb=>.inl hb) λhz=>.inr ⟨l,B,hB,hz,rfl⟩,rfl⟩
  ·rw[if_neg xk]at hK
   exact⟨_,hK,.un x,rfl⟩
 ·rename_i l a b
  obtain⟨mb,hm,xk,hK⟩:=iE h;obtain⟨B,hB,hb,A,c,rfl,IJ,hbn,hA⟩:=hx.EZ hk hm;exact⟨_,hK,JD hB hb xk (λb hb=>.inl hb) (λhz=>.inr ⟨l,B,hB,hz,rfl⟩) IJ hbn hA,rfl⟩
 ·exact⟨_,h,(hx.toC rfl).all λb hb=>.inl hb,rfl⟩
 ·exact⟨_,h,(hx.toC rfl).all λb hb=>.inl hb,rfl⟩
 ·exact⟨_,h,(hx.toC rfl).all λb hb=>.inl hb,rfl⟩
 ·exact⟨_,h,(hx.toC rfl).all λb hb=>.inl hb,rfl⟩
 ·exact⟨_,h,(hx.toC rfl).all λb hb=>.inl hb,rfl⟩
 grind
def Zmg(w:World)(S:Nat->Prop)(q:PV)(x:Value):Prop:=∀β n ω,cN w (E1 S β n ω) q x
theorem LM(hk:Ok w0 O E w m):∀(cs:List PV) (vs:List Value) (K:List PV->Prop),vs.length=cs.length->(∀(j:Nat) (p:PV) (x:Value),cs[j]?=ZA p->vs[j]?=ZA x->cN w E p x)->JI m cs K->
 ∃ds,K ds/\ds.length=cs.length/\∀(j:Nat) (q:PV) (x:Value),ds[j]?=ZA q->vs[j]?=ZA x->cf w (Zdk E) q x
 | [],[],K,_,_,h=>⟨[],h,rfl,by simp⟩
 | [],_::_,_,hl,_,_=>by grind
 |_::_,[],_,hl,_,_=>by grind
 |c::cs,v::vs,K,hl,hr,h=>by
  obtain⟨q,hK,hq,_⟩:=LK hk (hr 0 c v rfl rfl) h;obtain⟨ds,hK',hdl,hd⟩:=LM hk cs vs _ YN (λj p x hp hx=>hr (j+1) p x YN YN) hK
  grind
theorem ZcZ(hk:Ok w0 O E w m)(hx:cN w E p x)(h:JJ m p K):∃q,K q/\Zmg w (Zdk E) q x:=by
 unfold JJ at h
 split at h
 ·rename_i cs
  obtain⟨vs,rfl,hl,h1,hr⟩:=hx.pb;obtain⟨ds,hK,hdl,hd⟩:=LM hk cs vs.toList _ YG (λj p x hp hx=>hr j p x hp YN) h
  exact⟨_,hK,λβ n ω=>.ag ds vs YG h1 λj p x hp hx=>.c (hd j p x hp YN)⟩
 ·obtain⟨q,hK,hq,_⟩:=LK hk hx h
  exact⟨q,hK,λβ n ω=>.c hq⟩
theorem LJ(hk:Ok w0 O E w m):∀(cs:List PV) (vs:List Value) (K:List PV->Prop),vs.length=cs.length->(∀(j:Nat) (p:PV) (x:Value),cs[j]?=ZA p->vs[j]?=ZA x->cN w E p x)->DQ m cs K->
 ∃ds,K ds/\ds.length=cs.length/\∀(j:Nat) (q:PV) (x:Value),ds[j]?=ZA q->vs[j]?=ZA x->Zmg w (Zdk E) q x
 | [],[],K,_,_,h=>⟨[],h,rfl,by simp⟩
 | [],_::_,_,hl,_,_=>by grind
 |_::_,[],_,hl,_,_=>by grind
 |c::cs,v::vs,K,hl,hr,h=>by
  obtain⟨q,hK,hq⟩:=ZcZ hk (hr 0 c v rfl rfl) h;obtain⟨ds,hK',hdl,hd⟩:=LJ hk cs vs _ YN (λj p x hp hx=>hr (j+1) p x YN YN) hK
  grind
end
def yR(σ:Nat->Nat):PV->PV
 |.ms l=>.ms (σ l)
 |.ss l a b=>.ss (σ l) a b
 |.be l i o=>.be (σ l) i o
 |p=>p
def vt(σ:Nat->Nat):PV->PV
 |.fn f cs=>.fn f (cs.map (yR σ))
 |p=>yR σ p
def DI(σ:Nat->Nat):PV->PV
 |.ag cs=>.ag (cs.map (vt σ))
 |p=>vt σ p
def DJ(σ:Nat->Nat):PV->PV
 |.tu vs=>.tu (vs.map (DI σ))
 |p=>DI σ p
def vd(σ:Nat->Nat)(es:List (List PV)):List (List PV):=es.map (·.map (vt σ))
def nL(σ:Nat->Nat)(mb:MB):MB:=⟨mb.T,mb.k,vd σ mb.es⟩
def I2:PV->Bool
 |.ag _|.tu _|.fn _ _=>ZD
 |_=>ZC
def er(flat:Bool):PV->Prop
 |.fn _ cs=>flat=ZD/\∀c∈cs,I2 c=ZC
 |p=>flat=ZC->PY p=ZC
def wT(flat:Bool):PV->Prop
 |.ag cs=>∀c∈cs,er flat c
 |.tu _=>False
 |p=>er flat p
def tt(flat:Bool):PV->Prop
 |.tu vs=>∀v∈vs,wT flat v
 |p=>wT flat p
theorem ZiN{σ:Nat->Nat}(h:vt σ p=.sl es):p=.sl es:=by
 unfold vt at h
 split at h
 ·cases h
 ·cases p<;>simp[yR]at h⊢<;>exact h
theorem cf.flat{w:World}{S S':Nat->Prop}(hF:PY p=ZC)(h:cf w S p x):cf w S' p x:=by
 cases h with
 |v x h=>exact .v x h
 |ud=>exact .ud
 |un x=>exact .un x
 |_=>simp[PY]at hF
def zx:PV->Bool
 |.sl es=>es.all λcs=>cs.all PY
 |_=>ZD
theorem cf.key{w:World}{S S':Nat->Prop}(hF:zx (.sl es)=ZC)(hb:es≠[]->∀b off n c,x=.slice (ZA ⟨b,off,ZB⟩) n c->S' b)(h:cf w S (.sl es) x):cf w S' (.sl es) x:=by
 cases h with
 |nil A c=>exact .nil A c
 |sl es b off k c u hS hk hn hm zq hc h1 hr=>
  by_cases dX:es=[]
  ·subst dX;exact .nil _ _
  ·refine .sl es b off k c u (hb dX b off _ c rfl) hk hn hm zq hc h1 λi cs j p hi hj=>(hr i cs j p hi hj).flat ?_
   exact VS.1 (VS.1 hF cs (VI hi)) p (VI hj)
section
variable {w':World} {E' E2:Env} {σ:Nat->Nat} {flat:Bool}
theorem QZ(D3:∀l B,E'.used l->E2.β (σ l)=ZA B->E'.β l=ZA B)(hu:∀l,E'.used l->E2.used (σ l))(hS:∀p x,(flat=ZC->PY p=ZC)->cf w' E'.S p x->cf w' E2.S p x)
 (h:cN w' E' p x) (hp:I2 p=ZC) (hG:flat=ZC->PY p=ZC):cN w' E2 (yR σ p) x:=by
 cases h with
 |c h=>
  have:yR σ p=p:=by cases h<;>rfl
  rw[this];exact .c (hS p x hG h)
 |ms l _ hl h1 h=>exact .ms _ _ (hu l hl) h1 λB hB=>h B (D3 l B hl hB)
 |ss l a b _ hl h1 h=>exact .ss _ _ _ _ (hu l hl) h1 λB hB=>h B (D3 l B hl hB)
 |be l i o _ hl h1 h=>exact .be _ _ _ _ (hu l hl) h1 λB hB=>h B (D3 l B hl hB)
 |ag cs=>simp[I2]at hp
 |tu cs=>simp[I2]at hp
 |fn f cs=>simp[I2]at hp
theorem JB(D3:∀l B,E'.used l->E2.β (σ l)=ZA B->E'.β l=ZA B)(hu:∀l,E'.used l->E2.used (σ l))(hS:∀p x,(flat=ZC->PY p=ZC)->cf w' E'.S p x->cf w' E2.S p x)
 (h:cN w' E' p x) (hp:er flat p) (hna:∀cs,p≠.ag cs) (hnt:∀cs,p≠.tu cs):cN w' E2 (vt σ p) x:=by
 cases p with
 |fn f cs=>
  obtain⟨SP,gl⟩:=hp;obtain⟨vs,rfl,hl,hr⟩:=h.Mt;refine .fn f _ vs YN λj q x hq hx=>?_
  rw[VZ]at hq
  cases hc:cs[j]? with
  |none=>grind
  |some c=>
   simp only[hc,Wo,VR]at hq
   subst hq;exact QZ D3 hu hS (hr j c x hc hx) (gl c (VI hc)) (λh=>by grind)
 |ag cs=>grind
 |tu cs=>grind
 |_=>exact QZ D3 hu hS h rfl hp
theorem Q2(D3:∀l B,E'.used l->E2.β (σ l)=ZA B->E'.β l=ZA B)(hu:∀l,E'.used l->E2.used (σ l))(hS:∀p x,(flat=ZC->PY p=ZC)->cf w' E'.S p x->cf w' E2.S p x)
 (h:cN w' E' p x) (hp:wT flat p):cN w' E2 (DI σ p) x:=by
 cases p with
 |ag cs=>
  obtain⟨vs,rfl,hl,h1,hr⟩:=h.pb;refine .ag _ vs YN h1 λj q x hq hx=>?_
  rw[VZ]at hq
  cases hc:cs[j]? with
  |none=>grind
  |some c=>
   simp only[hc,Wo,VR]at hq
   subst hq;have hrc:=hr j c x hc hx;have BN:=h1 j x hx;refine JB D3 hu hS hrc (hp c (VI hc)) (λcs e=>?_) (λcs e=>?_)
   ·subst e;obtain⟨_,rfl,_⟩:=hrc.pb;simp[Value.oneCell']at BN
   ·subst e;obtain⟨_,rfl,_⟩:=hrc.Ck;simp[Value.oneCell']at BN
 |tu vs=>exact hp.elim
 |_=>exact JB D3 hu hS h hp YJ YJ
theorem Zf5(D3:∀l B,E'.used l->E2.β (σ l)=ZA B->E'.β l=ZA B)(hu:∀l,E'.used l->E2.used (σ l))(hS:∀p x,(flat=ZC->PY p=ZC)->cf w' E'.S p x->cf w' E2.S p x)
 (h:cN w' E' p x) (hp:tt flat p):cN w' E2 (DJ σ p) x:=by
 cases p with
 |tu ps=>
  obtain⟨vs,rfl,hl,hr⟩:=h.Ck;refine .tu _ vs YN λj q x hq hx=>?_
  rw[VZ]at hq
  cases hc:ps[j]? with
  |none=>grind
  |some c=>
   simp only[hc,Wo,VR]at hq
   subst hq;exact Q2 D3 hu hS (hr j c x hc hx) (hp c (VI hc))
 |_=>exact Q2 D3 hu hS h hp
end
/-! The other aK round: RT a callee is Zpe. -/
def Gr(n:Nat):PV->Bool
 |.ms l=>ZE (l<n)
 |.ss l _ _=>ZE (l<n)
 |.be l _ _=>ZE (l<n)
 |_=>ZC
def B9(n:Nat):PV->Bool
 |.fn _ cs=>cs.all (Gr n)
 |p=>Gr n p
def M3(n:Nat):PV->Bool
 |.ag cs=>cs.all (B9 n)
 |p=>B9 n p
section
variable {w:World} {E:Env} {S:Nat->Prop} {β:Nat->Option cL} {n:Nat} {σ:Nat->Nat}
theorem ZaQ(D3:∀l B,β l=ZA B->E.β (σ l)=ZA B)(hS:∀b,E.S b->S b)(h:cN w E (yR σ p) x)(hp:I2 p=ZC)(Db:Gr n p=ZC):cN w (E1 S β n ω) p x:=by
 cases p with
 |ms l=>
  cases h with
  |c h=>cases h
  |ms _ _ hl h1 h=>exact .ms _ _ (show _<n by simpa[Gr]using Db) h1 λB hB=>h B (D3 l B hB)
 |ss l a b=>
  cases h with
  |c h=>cases h
  |ss _ _ _ _ hl h1 h=>exact .ss _ _ _ _ (show _<n by simpa[Gr]using Db) h1 λB hB=>h B (D3 l B hB)
 |be l i o=>
  cases h with
  |c h=>cases h
  |be _ _ _ _ hl h1 h=>exact .be _ _ _ _ (show _<n by simpa[Gr]using Db) h1 λB hB=>h B (D3 l B hB)
 |ag cs=>simp[I2]at hp
 |tu cs=>simp[I2]at hp
 |fn f cs=>simp[I2]at hp
 |v y=>cases h with|c h=>exact .c (h.all hS)
 |ud=>cases h with|c h=>exact .c (h.all hS)
 |un=>cases h with|c h=>exact .c (h.all hS)
 |sl es=>cases h with|c h=>exact .c (h.all hS)
 |rp cs=>cases h with|c h=>exact .c (h.all hS)
theorem N8(D3:∀l B,β l=ZA B->E.β (σ l)=ZA B)(hS:∀b,E.S b->S b)(h:cN w E (vt σ p) x)(hp:er ZD p)(Db:B9 n p=ZC)(hna:∀cs,p≠.ag cs)(hnt:∀cs,p≠.tu cs):cN w (E1 S β n ω) p x:=by
 cases p with
 |fn f cs=>
  obtain⟨vs,rfl,hl,hr⟩:=h.Mt;simp only[B9,VS]at Db
  refine .fn f _ vs YN λj q x hq hx=>?_
  exact ZaQ D3 hS (hr j (yR σ q) x YN hx) (hp.2 q (VI hq)) (Db q (VI hq))
 |ag cs=>grind
 |tu cs=>grind
 |_=>exact ZaQ D3 hS h rfl Db
theorem Zjd(D3:∀l B,β l=ZA B->E.β (σ l)=ZA B)(hS:∀b,E.S b->S b)(h:cN w E (DI σ p) x)(hp:wT ZD p)(Db:M3 n p=ZC):cN w (E1 S β n ω) p x:=by
 cases p with
 |ag cs=>
  obtain⟨vs,rfl,hl,h1,hr⟩:=h.pb;simp only[M3,VS]at Db
  refine .ag _ vs YN h1 λj q x hq hx=>?_
  have hrc:=hr j (vt σ q) x YN hx;have BN:=h1 j x hx;refine N8 D3 hS hrc (hp q (VI hq)) (Db q (VI hq)) (λcs e=>?_) (λcs e=>?_)
  ·subst e;obtain⟨_,rfl,_⟩:=cN.pb hrc;simp[Value.oneCell']at BN
  ·subst e;obtain⟨_,rfl,_⟩:=cN.Ck hrc;simp[Value.oneCell']at BN
 |tu vs=>exact hp.elim
 |_=>exact N8 D3 hS h hp Db YJ YJ
end
def sig(ρ:List Nat)(ν:Nat)(i:Nat):Nat:=if i<ρ.length then ρ.getD i 0 else ν+(i-ρ.length)
def qP(σ:Nat->Nat)(m:Mem)(n:Nat):List Nat->Mem->Prop
 | [],[]=>True
 |l::ρ,ZA Sg::m0=>m[l]?=ZA (ZA (nL σ Sg))/\(∀cs∈Sg.es,∀p∈cs,er ZD p/\B9 n p=ZC)/\qP σ m n ρ m0
 |_,_=>False
def qi(σ:Nat->Nat):List Nat->Mem->Mem->Mem
 |l::ρ,r::m1,m=>qi σ ρ m1 (m.set l (r.map (nL σ)))
 |_,_,m=>m
def jy(σ:Nat->Nat):Nat->Mem->Mem->Mem
 |_,[],m=>m
 |ν,ZA mb::m1,m=>jy σ (ν+1) m1 (py m ν (nL σ mb))
 |ν,ZB::m1,m=>jy σ (ν+1) m1 ((m++VW (ν+1-m.length) ZB).set ν ZB)
theorem vS{σ:Nat->Nat}{m:Mem}{n:Nat}:∀{ρ:List Nat} {m0:Mem},qP σ m n ρ m0->ρ.length=m0.length/\∀(i l:Nat),ρ[i]?=ZA l->∃Sg:MB,m0[i]?=ZA (ZA Sg)/\m[l]?=ZA (ZA (nL σ Sg))/\∀cs∈Sg.es,∀p∈cs,er ZD p/\B9 n p=ZC
 | [],[],_=>⟨rfl,by simp⟩
 | [],_::_,h=>h.elim
 |_::_,[],h=>h.elim
 |l::ρ,ZB::m0,h=>h.elim
 |l::ρ,ZA Sg::m0,h=>by
  obtain⟨h1,h2⟩:=vS h.2.2;refine⟨by grind,λi l' hi=>?_⟩
  cases i with
  |zero=>
   obtain rfl:l=l':=by grind
   exact⟨Sg,rfl,h.1,h.2.1⟩
  |succ i=>grind
theorem LC{σ:Nat->Nat}:∀(ρ:List Nat) (m1 m:Mem),(qi σ ρ m1 m).length=m.length
 | [],_,_=>by rfl
 |_::_,[],_=>by rfl
 |l::ρ,r::m1,m=>by unfold qi;rw[LC];simp
theorem Jy{σ:Nat->Nat}:∀(ρ:List Nat) (m1 m:Mem) (l:Nat),l ∉ ρ->(qi σ ρ m1 m)[l]?=m[l]?
 | [],_,_,_,_=>by rfl
 |_::_,[],_,_,_=>by rfl
 |k::ρ,r::m1,m,l,hl=>by
  unfold qi;rw[Jy ρ m1 _ l (λh=>hl (V5 _ h)),Wk YN]
theorem LB{σ:Nat->Nat}:∀(ρ:List Nat) (m1 m:Mem),ρ.Nodup->(∀l∈ρ,l<m.length)->ρ.length<=m1.length->∀(i l:Nat),ρ[i]?=ZA l->(qi σ ρ m1 m)[l]?=(m1[i]?).map (Option.map (nL σ))
 | [],_,_,_,_,_,_,_,h=>by grind
 |_::_,[],_,_,_,hl,_,_,_=>by grind
 |k::ρ,r::m1,m,hn,bO,hl,i,l,hi=>by
  unfold qi;rw[List.nodup_cons]at hn
  cases i with
  |zero=>
   obtain rfl:k=l:=by grind
   rw[Jy ρ m1 _ k hn.1,Wa (bO k Wc)];rfl
  |succ i=>
   rw[LB ρ m1 _ hn.2 (λl' PJ=>by grind) YN i l YN]
   simp
theorem Cf{σ:Nat->Nat}:∀(ν:Nat) (m1 m:Mem),m.length<=(jy σ ν m1 m).length/\∀i,i<m1.length->ν+i<(jy σ ν m1 m).length
 |ν,[],m=>by unfold jy;simp
 |ν,ZA mb::m1,m=>by
  unfold jy;obtain⟨h1,h2⟩:=Cf (σ:=σ) (ν+1) m1 (py m ν (nL σ mb));rw[Jf]at h1
  refine⟨YG,λi hi=>?_⟩
  cases i with
  |zero=>omega
  |succ i=>have:=h2 i YN;omega
 |ν,ZB::m1,m=>by
  unfold jy;obtain⟨h1,h2⟩:=Cf (σ:=σ) (ν+1) m1 ((m++VW (ν+1-m.length) ZB).set ν ZB);simp at h1
  refine⟨YG,λi hi=>?_⟩
  cases i with
  |zero=>omega
  |succ i=>have:=h2 i YN;omega
theorem Ce{σ:Nat->Nat}:∀(ν:Nat) (m1 m:Mem) (l:Nat) (mb:MB),(jy σ ν m1 m)[l]?=ZA (ZA mb)->(∃i mb1,l=ν+i/\m1[i]?=ZA (ZA mb1)/\mb=nL σ mb1)\/m[l]?=ZA (ZA mb)
 |ν,[],m,l,mb,h=>by unfold jy at h;grind
 |ν,ZA mb1::m1,m,l,mb,h=>by
  rcases Ce (σ:=σ) (ν+1) m1 _ l mb h with⟨i,mb2,rfl,h1,h2⟩ |h'
  ·grind
  ·by_cases hl:l=ν
   ·subst hl
    rw[xR]at h'
    grind
   ·exact .inr ((DB hl).1 h')
 |ν,ZB::m1,m,l,mb,h=>by
  rcases Ce (σ:=σ) (ν+1) m1 _ l mb h with⟨i,mb2,rfl,h1,h2⟩ |h'
  all_goals grind
def wW(m:Mem)(l:Nat):Bool:=match m[l]? with
 |some (ZA _)=>ZC
 |_=>ZD
theorem xL{m:Mem}:wW m l=ZC↔∃mb,m[l]?=ZA (ZA mb):=by
 unfold wW
 grind
theorem dA.renamed{w':World}{E' E2:Env}{σ:Nat->Nat}{flat:Bool}(h:dA w' E' mb B)(hg:∀cs∈mb.es,∀p∈cs,er flat p\/mb.T.kd.isSome=ZC/\zx p=ZC)(D3:∀l B,E'.used l->E2.β (σ l)=ZA B->E'.β l=ZA B)(hu:∀l,E'.used l->E2.used (σ l))
 (hS:∀p x,(flat=ZC->PY p=ZC)->cf w' E'.S p x->cf w' E2.S p x) (hω:∀b q,E'.ω b q->E2.ω b q/\E2.S b):dA w' E2 (nL σ mb) B:=by
 refine⟨h.k,by rw[h.n];simp[nL,vd],h.T,h.pos,h.nc,h.cm,λi cs hi=>?_,λhz=>by simp[nL,vd,h.nil hz],λhz=>?_,λT hT hz i cs j es x hi hj dX hc=>?_⟩
 ·simp only[nL,vd,VZ]at hi
  obtain⟨cs0,h0,rfl⟩:=VT.1 hi;rw[List.length_map];exact h.es i cs0 h0
 ·obtain⟨cells,m1,m2,m3⟩:=h.mem hz
  refine⟨cells,m1,m2,λi cs j p hi hj=>?_⟩
  simp only[nL,vd,VZ]at hi
  obtain⟨cs0,h0,rfl⟩:=VT.1 hi;rw[VZ]at hj
  obtain⟨p0,hp0,rfl⟩:=VT.1 hj;obtain⟨x,x1,x2,x3⟩:=m3 i cs0 j p0 h0 hp0
  rcases hg cs0 (VI h0) p0 (VI hp0)with hgg|⟨hgk,hgp⟩
  rotate_left
  ·refine⟨x,x1,x2,?_⟩
   cases p0 with
   |sl es=>
    cases x3 with
    |c hc=>
     refine .c (hc.key hgp λdX b off n c e=>?_)
     obtain⟨T,hT⟩:=Option.isSome_iff_exists.1 hgk;obtain⟨b',c',k',cs1,a1,a2,a3⟩:=h.key T hT hz i cs0 j es x h0 hp0 dX (by simp[World.cell?,m1,x1])
     grind
   |_=>simp[zx]at hgp
  refine⟨x,x1,x2,JB D3 hu hS x3 hgg (λcs e=>?_) (λcs e=>?_)⟩
  ·subst e;obtain⟨_,rfl,_⟩:=x3.pb;simp[Value.oneCell']at x2
  ·subst e;obtain⟨_,rfl,_⟩:=x3.Ck;simp[Value.oneCell']at x2
 ·simp only[nL,vd,VZ]at hi
  obtain⟨cs0,h0,rfl⟩:=VT.1 hi;rw[VZ]at hj
  obtain⟨p0,hp0,he⟩:=VT.1 hj;obtain rfl:=ZiN he;obtain⟨b,c,k,cs1,a1,a2,a3⟩:=h.key T hT hz i cs0 j es x h0 hp0 dX hc;exact⟨b,c,k,cs1,a1,(hω b _ a2).1,a3⟩
section
variable {w:World} {O:Nat->Prop} {E:Env} {w0:World} {m:Mem} {P:Program}
open Classical in
theorem ON(hk:Ok w0 O E w m){ν:Nat}{f:FuncId}{qs:List PV}{vs:Array Value}{ρ:List Nat}{m0 m1:Mem}{r:PV}{flat:Bool}{S:Nat->Prop}(hc:cq P f qs m0 r m1)(Av:∀i,i<m1.length-m0.length->¬E.used (ν+i))(hle:m0.length<=m1.length)
 (hl:vs.size=qs.length) (hargs:∀β:Nat->Option cL,(∀l B,β l=ZA B->E.β (sig ρ ν l)=ZA B)->∀(i:Nat) (p:PV),qs[i]?=ZA p->∃x,vs[i]?=ZA x/\cN w (E1 S β m0.length E.ω) p x)
 (hn:ρ.Nodup) (As:qP (sig ρ ν) m m0.length ρ m0) (hS1:∀b,E.S b->S b) (Mw:flat=ZD->S=E.S) (SP:flat=ZC->m0=[]) (Zo7:∀b,S b->b<w.heap.size)
 (Sc:∀mb,ZA mb∈m1->∀cs∈mb.es,∀p∈cs,er flat p\/mb.T.kd.isSome=ZC/\zx p=ZC) (hr:tt flat r):
 Calls P f vs w λe w'=>∃v E2,e=.returned v/\Ok w0 O E2 w' (jy (sig ρ ν) ν (m1.drop ρ.length) (qi (sig ρ ν) ρ m1 m))/\Ext w w' E E2/\cN w' E2 (DJ (sig ρ ν) r) v/\∀l,E2.used l->E.used l\/(ν<=l/\l<ν+(m1.length-m0.length)):=by
 obtain⟨ZeU,hρ⟩:=vS As;have N0:∀{i l},ρ[i]?=ZA l->sig ρ ν i=l:=λ{i l} h=>by
  have hi:i<ρ.length:=(VH.1 h).1;unfold sig W8;rw[if_pos hi,h];rfl
 have tg:∀{i},i<ρ.length->∃l,ρ[i]?=ZA l/\sig ρ ν i=l:=λ{i} hi=>⟨ρ[i],VF hi,N0 (VF hi)⟩
 have EY:∀{i},¬i<ρ.length->sig ρ ν i=ν+(i-ρ.length):=λ{i} hi=>by simp[sig,hi]
 have De:∀{i},i<m1.length->E.used (sig ρ ν i)->i<ρ.length:=λ{i} hi hu=>by
  by_cases h:i<ρ.length
  ·exact h
  ·rw[EY h]at hu
   exact absurd hu (Av _ YG)
 have ZhH:∀l∈ρ,E.used l:=λl hl=>by
  obtain⟨i,hi⟩:=Xf hl;obtain⟨Sg,_,h2,_⟩:=hρ i l hi;exact mn hk h2
 have NZ:∀{i j},i<m1.length->j<m1.length->sig ρ ν i=sig ρ ν j->i=j:=by
  intro i j hi hj e
  by_cases h1:i<ρ.length<;>by_cases h2:j<ρ.length
  ·obtain⟨a,ha,ea⟩:=tg h1
   obtain⟨b,hb,eb⟩:=tg h2;have IJ:a=b:=by rw[<-ea,<-eb,e]
   subst IJ;rw[VF h1,VR]at ha
   rw[VF h2,VR]at hb
   rcases Nat.lt_trichotomy i j with h3|h3|h3
   ·exact absurd (ha.trans hb.symm) (Wm.1 hn i j h1 h2 h3)
   ·exact h3
   ·exact absurd (hb.trans ha.symm) (Wm.1 hn j i h2 h1 h3)
  ·obtain⟨a,ha,ea⟩:=tg h1
   have:=De hj (by rw[<-e,ea];exact ZhH a (VI ha))
   omega
  ·obtain⟨b,hb,eb⟩:=tg h2
   have:=De hi (by rw[e,eb];exact ZhH b (VI hb))
   omega
  ·rw[EY h1,EY h2]at e;omega
 -- the Zmr rows
 let β:Nat->Option cL:=λi=>if i<ρ.length then E.β (sig ρ ν i)else ZB
 have Kl:∀{i B},β i=ZA B->i<ρ.length/\E.β (sig ρ ν i)=ZA B:=λ{i B} h=>by
  simp only[β]at h
  split at h
  ·exact⟨by assumption,h⟩
  ·cases h
 have hnS:∀l B,E.β l=ZA B->B.z=ZD->l∈ρ->¬S B.b:=λl B hB hz Zne=>by
  cases flat with
  |false=>rw[Mw rfl];exact(hk.own l B hB hz).2.2
  |true=>
   have:=SP rfl;rw[this]at ZeU
   rw[W4.1 ZeU]at Zne
   cases Zne
 have Zpu:Ok w (mz β) (E1 S β m0.length E.ω) w m0:=by
  refine⟨mA.refl _ _,Zo7,λl B hB hz=>?_,λl l' B B' hB lB hz vF e=>?_,λl hl=>hl,λl B hB=>?_,λl Sg hm0=>?_,λl B hB=>?_,hk.Zqo λb hb=>?_,λb q hq=>⟨hS1 b (hk.ow b q hq).1,(hk.ow b q hq).2⟩⟩
  ·obtain⟨h1,h2⟩:=Kl hB
   obtain⟨a,ha,ea⟩:=tg h1;rw[ea]at h2
   exact⟨.inl ⟨l,B,hB,hz,rfl⟩,(hk.own a B h2 hz).2.1,hnS a B h2 hz (VI ha)⟩
  ·obtain⟨h1,h2⟩:=Kl hB
   obtain⟨h3,h4⟩:=Kl lB;exact NZ YG YG (hk.inj _ _ B B' h2 h4 hz vF e)
  ·have:=(Kl hB).1
   show l<m0.length;omega
  ·have Oj:l<ρ.length:=by rw[ZeU];exact(VH.1 hm0).1
   obtain⟨a,ha,ea⟩:=tg Oj;obtain⟨ZrC,h1,h2,h3⟩:=hρ l a ha;rw[hm0]at h1
   simp only[VR]at h1
   subst h1;obtain⟨B,hB,hb⟩:=hk.mem a _ h2;refine⟨B,by simp only[E1,β];rw[if_pos Oj,ea];exact hB,hb.k,by rw[hb.n];simp[nL,vd],hb.T,hb.pos,hb.nc,hb.cm,λi cs hi=>?_,λhz=>?_,λhz=>?_,λT hT hz i cs j es x hi hj dX hcx=>?_⟩
   ·have:=hb.es i (cs.map (vt (sig ρ ν))) (by simp[nL,vd,hi])
    simpa using this
   ·have:=hb.nil hz
    simpa[nL,vd]using this
   ·obtain⟨cells,m1',m2',m3'⟩:=hb.mem hz
    refine⟨cells,m1',m2',λi cs j p hi hj=>?_⟩
    obtain⟨x,x1,x2,x3⟩:=m3' i (cs.map (vt (sig ρ ν))) j (vt (sig ρ ν) p) (by simp[nL,vd,hi]) (by simp[hj])
    have xH:=h3 cs (VI hi) p (VI hj);refine⟨x,x1,x2,N8 (E:=E) (λl B hB=>(Kl hB).2) hS1 x3 xH.1 xH.2 (λcs e=>?_) (λcs e=>?_)⟩
    ·subst e;obtain⟨_,rfl,_⟩:=cN.pb x3;simp[Value.oneCell']at x2
    ·subst e;obtain⟨_,rfl,_⟩:=cN.Ck x3;simp[Value.oneCell']at x2
   ·exact hb.key T hT hz i (cs.map (vt (sig ρ ν))) j es x (by simp[nL,vd,hi]) (by simp[hj,vt,yR]) dX hcx
  ·obtain⟨h1,h2⟩:=Kl hB
   obtain⟨a,ha,ea⟩:=tg h1;obtain⟨Sg,h3,_⟩:=hρ l a ha;exact⟨Sg,h3⟩
  ·obtain⟨l,B,hB,hz,rfl⟩:=hb
   obtain⟨h1,h2⟩:=Kl hB;exact(hk.own _ B h2 hz).1
 refine(hc S β w vs E.ω Zpu hl (hargs β λl B hB=>(Kl hB).2)).mono ?_
 rintro e w' ⟨v,E',rfl,ji,hSS,hSn,⟨ZpG,ZkZ⟩,xl⟩;have ZhF:∀{i},E'.used i->i<m1.length:=λ{i} h=>ji.used i h
 -- the Zms rows behind the call
 let m2:=jy (sig ρ ν) ν (m1.drop ρ.length) (qi (sig ρ ν) ρ m1 m)
 let S2:Nat->Prop:=λb=>if flat then E.S b\/(w.heap.size<=b/\E'.S b)else E'.S b
 let β2:Nat->Option cL:=λl=>if wW m2 l=ZC then(if h:∃i,i<m1.length/\sig ρ ν i=l then E'.β (XT h)else E.β l)else ZB
 let E2:Env:={ S:=S2,β:=β2,used:=λl=>E.used l\/∃i,E'.used i/\sig ρ ν i=l,ω:=λb q=>E.ω b q\/E'.ω b q}
 have Zjx:∀l∈ρ,l<m.length:=λl hl=>hk.used l (ZhH l hl)
 have IN:∀{l mb},m2[l]?=ZA (ZA mb)->(∃i mb1,i<m1.length/\sig ρ ν i=l/\m1[i]?=ZA (ZA mb1)/\mb=nL (sig ρ ν) mb1)\/(l ∉ ρ/\(¬ ∃i,i<m1.length/\sig ρ ν i=l)/\m[l]?=ZA (ZA mb)):=by
  intro l mb h
  rcases Ce _ _ _ _ _ h with⟨i,mb1,rfl,h1,h2⟩ |h'
  ·rw[List.getElem?_drop]at h1
   refine .inl ⟨ρ.length+i,mb1,(VH.1 h1).1,?_,h1,h2⟩;rw[EY YG];omega
  ·by_cases hl:l∈ρ
   ·obtain⟨i,hi⟩:=Xf hl
    have wI:i<ρ.length:=(VH.1 hi).1;rw[LB ρ m1 m hn Zjx YG i l hi]at h'
    rw[VF (show i<m1.length by omega)]at h'
    simp only[Wo,VR]at h'
    obtain⟨mb1,h1,h2⟩:=VT.1 h';exact .inl ⟨i,mb1,YG,N0 hi,by rw[VF (show i<m1.length by omega),h1],h2.symm⟩
   ·rw[Jy ρ m1 m l hl]at h'
    refine .inr ⟨hl,?_,h'⟩;rintro⟨i,hi,rfl⟩;have:=De hi (mn hk h');obtain⟨a,ha,ea⟩:=tg this;rw[ea]at hl
    exact hl (VI ha)
 have Oh:∀{i} (hi:i<m1.length) (h:∃j,j<m1.length/\sig ρ ν j=sig ρ ν i),XT h=i:=λ{i} hi h=>NZ (Xl h).1 hi (Xl h).2
 have PR:∀{l B},β2 l=ZA B->wW m2 l=ZC/\((∃i,i<m1.length/\sig ρ ν i=l/\E'.β i=ZA B)\/((¬ ∃i,i<m1.length/\sig ρ ν i=l)/\E.β l=ZA B)):=by
  intro l B h;simp only[β2]at h
  split at h
  ·rename_i vE
   refine⟨vE,?_⟩
   split at h
   ·rename_i hex
    exact .inl ⟨XT hex,(Xl hex).1,(Xl hex).2,h⟩
   ·rename_i hex
    exact .inr ⟨hex,h⟩
  ·cases h
 have K8:∀b,b<w.heap.size->¬mz β b->w'.heap[b]?=w.heap[b]?:=λb hb hn=>ji.up.block b hb hn
 have Bu:∀b,mz β b->∃l B,l∈ρ/\E.β l=ZA B/\B.z=ZD/\B.b=b:=by
  rintro b ⟨l,B,hB,hz,rfl⟩;obtain⟨h1,h2⟩:=Kl hB;obtain⟨a,ha,ea⟩:=tg h1;exact⟨a,B,VI ha,by rw[<-ea];exact h2,hz,rfl⟩
 have ZmV:∀b,S2 b->E'.S b:=λb hb=>by
  simp only[S2]at hb
  split at hb
  ·rcases hb with hb|hb
   ·exact hSS b (hS1 b hb)
   ·exact hb.2
  ·exact hb
 have ZmU:∀b,S2 b->E.S b\/w.heap.size<=b\/mz β b:=λb hb=>by
  simp only[S2]at hb
  split at hb
  ·exact hb.imp id λh=>.inl h.1
  ·rename_i hf
   rcases hSn b hb with h|h|h
   ·rw[Mw (by simpa using hf)]at h;exact .inl h
   ·exact .inr (.inl h)
   ·exact .inr (.inr h)
 have ZeQ:∀b,mz β b->mz E.β b:=λb ho=>by
  obtain⟨l,B,_,hB,hz,rfl⟩:=Bu b ho;exact⟨l,B,hB,hz,rfl⟩
 have hSE:∀b,E.S b->S2 b:=λb hb=>by
  simp only[S2]
  split
  ·exact .inl hb
  ·exact hSS b (hS1 b hb)
 have hx:Ext w w' E E2:=by
  refine⟨hSE,λb o hb=>cell_of_heap (K8 b (hk.sz b hb) λho=>?_),λl B hl hB=>?_,λl hl=>.inl hl,λb hb=>(ZmU b hb).imp id λh=>h.imp id (ZeQ b),λb ho=>?_,ji.up.size,λb q hq=>⟨.inl hq,K8 b (hk.sz b (hk.ow b q hq).1) λho=>(by obtain⟨l,B,_,hB,hz,rfl⟩:=Bu b ho;exact(hk.own l B hB hz).2.2 (hk.ow _ q hq).1)⟩,λb q hq=>(by rcases hq with h|h;exact .inl h;exact(ZkZ b q h).imp id λh=>h.imp id (ZeQ b))⟩
  ·obtain⟨l,B,_,hB,hz,rfl⟩:=Bu b ho
   exact(hk.own l B hB hz).2.2 hb
  ·rcases(PR hB).2 with⟨i,hi,rfl,lB⟩ |⟨_,lB⟩
   ·have bO:=De hi hl
    obtain⟨h1,h2⟩:=Kl (ZpG i B YG lB);exact h2
   ·exact lB
  ·obtain⟨l,B,hB,hz,rfl⟩:=ho
   rcases(PR hB).2 with⟨i,hi,_,lB⟩ |⟨_,lB⟩
   ·rcases(ji.own i B lB hz).1 with h|h
    ·exact .inl (ZeQ _ h)
    ·exact .inr h
   ·exact .inl ⟨l,B,lB,hz,rfl⟩
 have Zno:∀l B,E'.used l->E2.β (sig ρ ν l)=ZA B->E'.β l=ZA B:=by
  intro l B hl hB
  rcases(PR hB).2 with⟨i,hi,he,lB⟩ |⟨Bt,_⟩
  ·rw[<-NZ hi (ZhF hl) he];exact lB
  ·exact absurd ⟨l,ZhF hl,rfl⟩ Bt
 have Zjv:∀p x,(flat=ZC->PY p=ZC)->cf w' E'.S p x->cf w' E2.S p x:=by
  intro p x hp h
  cases hf:flat with
  |true=>exact h.flat (hp hf)
  |false=>exact h.all λb hb=>by simp only[E2,S2,hf];exact hb
 have Znh:∀b q q',E.ω b q->E'.ω b q'->q'=q:=λb q q' h h'=>by
  rcases ZkZ b q' h' with h1|h1|h1
  ·exact(hk.ow b q h).2 q' h1
  ·have:=hk.sz b (hk.ow b q h).1;omega
  ·obtain⟨l,B,_,hB,hz,rfl⟩:=Bu b h1
   exact absurd (hk.ow _ q h).1 (hk.own l B hB hz).2.2
 have Znu:∀b q,E'.ω b q->E2.S b:=λb q h=>by
  have h0:=(ji.ow b q h).1;simp only[E2,S2]
  split
  ·rename_i hf
   rcases ZkZ b q h with h1|h1|h1
   ·exact .inl (hk.ow b q h1).1
   ·exact .inr ⟨h1,h0⟩
   ·obtain⟨l,B,hl,_⟩:=Bu b h1
    have:=SP hf;rw[this]at ZeU
    rw[W4.1 ZeU]at hl
    cases hl
  ·exact h0
 have how:∀b q,E2.ω b q->E2.S b/\∀q',E2.ω b q'->q'=q:=λb q hq=>by
  rcases hq with h|h
  ·refine⟨hSE b (hk.ow b q h).1,λq' Ki=>?_⟩
   rcases Ki with h'|h'
   ·exact(hk.ow b q h).2 q' h'
   ·exact Znh b q q' h h'
  ·refine⟨Znu b q h,λq' Ki=>?_⟩
   rcases Ki with h'|h'
   ·exact(Znh b q' q h' h).symm
   ·exact(ji.ow b q h).2 q' h'
 refine⟨v,E2,rfl,⟨?_,λb hb=>ji.sz b (ZmV b hb),λl B hB hz=>?_,λl l' B B' hB lB hz vF e=>?_,λl hl=>?_,λl B hB=>?_,λl mb Ft=>?_,λl B hB=>xL.1 (PR hB).1,hk.tab,how⟩,hx,
  Zf5 (flat:=flat) Zno (λl hl=>.inr ⟨l,hl,rfl⟩) Zjv xl hr,λl hl=>?_⟩
 ·refine hk.up.trans ji.up λb hb ho=>?_
  obtain⟨l,B,_,hB,hz,rfl⟩:=Bu b ho
  rcases(hk.own l B hB hz).1 with h|h
  ·exact h
  ·omega
 ·rcases(PR hB).2 with⟨i,hi,rfl,lB⟩ |⟨Bt,lB⟩
  ·obtain⟨h1,h2,h3⟩:=ji.own i B lB hz
   refine⟨?_,h2,λhS=>h3 (ZmV _ hS)⟩
   rcases h1 with h1|h1
   ·obtain⟨l,B1,_,BK,hz1,e1⟩:=Bu _ h1
    rw[<-e1];exact(hk.own l B1 BK hz1).1
   ·exact .inr (by have:=hk.up.size;omega)
  ·obtain⟨h1,h2,h3⟩:=hk.own l B lB hz
   refine⟨h1,by have:=ji.up.size;omega,λhS=>?_⟩
   rcases ZmU _ hS with h|h|h
   ·exact h3 h
   ·omega
   ·obtain⟨l3,B3,hl3,hB3,hz3,e3⟩:=Bu _ h
    have:=hk.inj l3 l B3 B hB3 lB hz3 hz e3;subst this;obtain⟨j,hj⟩:=Xf hl3;have MM:j<ρ.length:=(VH.1 hj).1;exact Bt ⟨j,YG,N0 hj⟩
 ·have Zjp:∀{i l2 B1 B2},i<m1.length->E'.β i=ZA B1->(¬ ∃j,j<m1.length/\sig ρ ν j=l2)->E.β l2=ZA B2->B1.z=ZD->B2.z=ZD->B1.b=B2.b->False:=by
   intro i l2 B1 B2 hi BK Bt hB2 hz1 hz2 e
   rcases(ji.own i B1 BK hz1).1 with h|h
   ·obtain⟨l3,B3,hl3,hB3,hz3,e3⟩:=Bu _ h
    have:=hk.inj l3 l2 B3 B2 hB3 hB2 hz3 hz2 (e3.trans e);subst this;obtain⟨j,hj⟩:=Xf hl3;have MM:j<ρ.length:=(VH.1 hj).1;exact Bt ⟨j,YG,N0 hj⟩
   ·have:=(hk.own l2 B2 hB2 hz2).2.1
    omega
  rcases(PR hB).2 with⟨i,hi,rfl,h1⟩ |⟨Bt,h1⟩<;>rcases(PR lB).2 with⟨i',lS,rfl,h2⟩ |⟨ZeL,h2⟩
  ·rw[ji.inj i i' B B' h1 h2 hz vF e]
  ·exact(Zjp hi h1 ZeL h2 hz vF e).elim
  ·exact(Zjp lS h2 Bt h1 vF hz e.symm).elim
  ·exact hk.inj l l' B B' h1 h2 hz vF e
 ·obtain⟨g1,g2⟩:=Cf (σ:=sig ρ ν) ν (m1.drop ρ.length) (qi (sig ρ ν) ρ m1 m)
  rw[LC]at g1
  show l<(jy (sig ρ ν) ν (m1.drop ρ.length) (qi (sig ρ ν) ρ m1 m)).length
  rcases hl with hl|⟨i,hi,rfl⟩
  ·have:=hk.used l hl;omega
  ·have lS:=ZhF hi
   by_cases h:i<ρ.length
   ·obtain⟨a,ha,ea⟩:=tg h
    rw[ea];have:=Zjx a (VI ha);omega
   ·rw[EY h]
    exact g2 _ YR
 ·rcases(PR hB).2 with⟨i,hi,rfl,h1⟩ |⟨Bt,h1⟩
  ·exact .inr ⟨i,ji.bu i B h1,rfl⟩
  ·exact .inl (hk.bu l B h1)
 ·have vE:wW m2 l=true:=xL.2 ⟨mb,Ft⟩
  rcases IN Ft with⟨i,mb1,hi,rfl,h1,rfl⟩ |⟨hl,Bt,h1⟩
  ·obtain⟨B,hB,hb⟩:=ji.mem i mb1 h1
   have hex:∃j,j<m1.length/\sig ρ ν j=sig ρ ν i:=⟨i,hi,rfl⟩;refine⟨B,?_,hb.renamed (flat:=flat) (Sc mb1 (VI h1)) Zno (λl hl=>.inr ⟨l,hl,rfl⟩) Zjv λb q hq=>⟨.inr hq,Znu b q hq⟩⟩
   simp only[E2,β2,vE,if_true,hex,dif_pos];rw[Oh hi];exact hB
  ·obtain⟨B,hB,hb⟩:=hk.mem l mb h1
   refine⟨B,by simp only[E2,β2,vE,if_true];rw[dif_neg Bt];exact hB,hb.ext hx λhz=>K8 _ (hk.own l B hB hz).2.1 λho=>?_⟩
   obtain⟨l3,B3,hl3,hB3,hz3,e3⟩:=Bu _ ho;exact hl (hk.inj l3 l B3 B hB3 hB hz3 hz e3▸hl3)
 ·rcases hl with hl|⟨i,hi,rfl⟩
  ·exact .inl hl
  ·have lS:=ZhF hi
   by_cases h:i<ρ.length
   ·obtain⟨a,ha,ea⟩:=tg h
    rw[ea];exact .inl (ZhH a (VI ha))
   ·rw[EY h]
    exact .inr ⟨YG,YG⟩
def ZbU:PV->Bool
 |.ag cs=>cs.all uW
 |.tu _=>ZD
 |p=>uW p
def rz(P:Program)(io:Bool)(wd ν:Nat)(f:FuncId)(ps:List PV)(m:Mem)(K:PV->Mem->Prop):Prop:=
 (∃r m1,DQ m ps (λqs=>cq P f qs [] r m1)/\m1.length<=wd/\(∀mb,ZA mb∈m1->∀cs∈mb.es,∀p∈cs,er ZC p\/mb.T.kd.isSome=ZC/\zx p=ZC)/\tt ZC r/\K (DJ (sig [] ν) r) (jy (sig [] ν) ν m1 m))\/
 ∃(ρ:List Nat) (m0:Mem) (qs:List PV) (r:PV) (m1:Mem),(io=ZC\/ρ=[])/\cq P f qs m0 r m1/\m0.length<=m1.length/\m1.length-m0.length<=wd/\ps=qs.map (DI (sig ρ ν))/\(∀q∈qs,wT ZD q/\M3 m0.length q=ZC)/\ρ.Nodup/\qP (sig ρ ν) m m0.length ρ m0/\
  (∀mb,ZA mb∈m1->∀cs∈mb.es,∀p∈cs,er ZD p)/\tt ZD r/\K (DJ (sig ρ ν) r) (jy (sig ρ ν) ν (m1.drop ρ.length) (qi (sig ρ ν) ρ m1 m))
theorem QD(hk:Ok w0 O E w m){io:Bool}{wd ν:Nat}(Av:∀i,i<wd->¬E.used (ν+i)){f:FuncId}{ps:List PV}{vs:Array Value}(hl:vs.size=ps.length)(hr:∀(j:Nat) (p:PV) (x:Value),ps[j]?=ZA p->vs[j]?=ZA x->cN w E p x){K:PV->Mem->Prop}(h:rz P io wd ν f ps m K):
 ∃r m',K r m'/\Calls P f vs w λe w'=>∃v E',e=.returned v/\Ok w0 O E' w' m'/\Ext w w' E E'/\cN w' E' r v/\∀l,E'.used l->E.used l\/(ν<=l/\l<ν+wd):=by
 rcases h with⟨r,m1,hs,PN,Sc,SR,hK⟩ |⟨ρ,m0,qs,r,m1,_,hc,hle,PN,Kh,hqs,hn,As,Sc,SR,hK⟩
 ·refine⟨_,_,hK,?_⟩
  obtain⟨ds,hc,hdl,hd⟩:=LJ hk ps vs.toList _ YG (λj p x hp hx=>hr j p x hp YN) hs
  have uV:∀b,Zdk E b->b<w.heap.size:=by
   rintro b (h|⟨l,B,hB,hz,rfl⟩)
   ·exact hk.sz b h
   ·exact(hk.own l B hB hz).2.1
  refine(ON (ρ:=[]) (flat:=ZC) hk hc (λi hi=>Av i YG) (WG _) YG (λβ _ i p hp=>?_) List.nodup_nil trivial (λb hb=>.inl hb) (λh=>by cases h) (λ_=>rfl) uV Sc SR).mono ?_
  ·have hi:i<vs.size:=by grind
   exact⟨vs[i],VU hi,hd i p _ hp YJ _ _ _⟩
  ·rintro e w' ⟨v,E2,he,h1,h2,h3,h4⟩
   exact⟨v,E2,he,h1,h2,h3,λl hl=>(h4 l hl).imp id λh=>⟨h.1,YG⟩⟩
 ·refine⟨_,_,hK,?_⟩
  have hql:vs.size=qs.length:=by grind
  refine(ON (ρ:=ρ) (flat:=ZD) (S:=E.S) hk hc (λi hi=>Av i YG) hle hql (λβ D3 i p hp=>?_) hn As (λb hb=>hb) (λ_=>rfl) (λh=>by cases h) hk.sz (λmb h cs hc p hp=>.inl (Sc mb h cs hc p hp)) SR).mono ?_
  ·have hi:i<vs.size:=by grind
   have hg:=hqs p (VI hp);exact⟨vs[i],VU hi,Zjd D3 (λb hb=>hb) (hr i (DI (sig ρ ν) p) _ YN (VU hi)) hg.1 hg.2⟩
  grind
end
end Go.Proofs.YtbalgkakkoocjaaGreat
namespace Go.Proofs.YtbalgkakkoocjaaGreat
set_option maxRecDepth 10000
open Go.RowKit
variable {K:PV->Mem->Prop}{T:TypeId}{a:Act}{b io:Bool}{f:FuncId}{l s wd ν:Nat}{ops:Array Oper}{p:PV}{ps:List PV}{q:Nat×Option MB}{tm:Array Value}
def BW (P : Program) (f : FuncId) : Prop := ∃ fn, P.funcs[f]? = ZA fn /\ fn.body.isSome = ZC /\ (fn.name == "runtime.NumGoroutine") = ZD
def je(P:Program)(io:Bool)(wd ν:Nat)(o:Op)(t:List PV)(m:Mem)(K:PV->Mem->Prop):Prop:=
 match o with
 |.alloc T=>EP ν m T (pz P T) K
 |.box T x=>EP ν m T (pc (fS t x)) K
 |.buildSlice T n ps=>nJ P ν m T n (ps.toList.map λq=>(q.1,fS t q.2)) K
 |.makeSlice T l c=>zP P ν m T (fS t l) (fS t c) K
 |.store T a x=>zQ P m T (fS t a) (fS t x) K
 |.call c=>match c.callee with
  |.builtin .append=>match c.args.toList,c.argTypes.toList with
   | [s,x],[T,T']=>T=T'/\fV P ν m T (fS t s) (fS t x) K
   |_,_=>False
  |.value (.func f)=>BW P f/\rz P io wd ν f (c.args.toList.map (fS t)) m K
  |.value (.tmp i)=>match t.getD i .un with
   |.fn f cs=>(∀c∈cs,I2 c=ZC)/\BW P f/\rz P io wd ν f (c.args.toList.map (fS t)++cs) m K
   |_=>False
  |_=>sh P o t m λp=>K p m
 |_=>sh P o t m λp=>K p m
def gate(c:Bool)(y n:Prop):Prop:=(c=ZC->y)/\(c=ZD->n)
def jk(t:List PV)(d:Option Tmp)(p:PV):List PV:=
 match d with
 |some d=>t.set d p
 |none=>t
def vp(P:Program)(ops:Array Oper)(K:List PV->Mem->Prop):List Oper->List PV->Mem->Prop
 | [],t,m=>K t m
 |o::rest,t,m=>match o.guard with
  |none=>je P ZC 16 m.length o.op t m λp m'=>vp P ops K rest (jk t o.dst p) m'
  |some (j,b)=>match(ops[j]?).bind (·.dst)with
   |none=>vp P ops K rest (jk t o.dst .ud) m
   |some d=>match t.getD d .un,b with
    |.v (.bool c),ZC=>gate c (je P ZC 16 m.length o.op (t.set d (.v (.bool ZC))) m λp m'=>vp P ops K rest (jk (t.set d (.v (.bool ZC))) o.dst p) m') (vp P ops K rest (jk (t.set d (.v (.bool ZD))) o.dst .ud) m)
    |.v (.bool c),ZD=>gate c (vp P ops K rest (jk (t.set d (.v (.bool ZC))) o.dst .ud) m) (je P ZC 16 m.length o.op (t.set d (.v (.bool ZD))) m λp m'=>vp P ops K rest (jk (t.set d (.v (.bool ZD))) o.dst p) m')
    |.ud,_=>vp P ops K rest (jk t o.dst .ud) m
    |_,_=>False
section
variable {w:World} {O:Nat->Prop} {E:Env} {w0:World} {m:Mem} {P:Program}
def Om(P:Program)(w0:World)(O:Nat->Prop)(E:Env)(w:World)(wd ν:Nat)(a:Act)(o:Oper)(p:PV)(m':Mem):Prop:=
 ∀(K:Act->World->Prop) (Q:Exit->Act->World->Prop),(∀x w' E',Ok w0 O E' w' m'->Ext w w' E E'->cN w' E' p x->(∀l,E'.used l->E.used l\/(ν<=l/\l<ν+wd))->K (a.put o.dst x) w')->o.wp P a w K Q
theorem CS(PN:0<wd){o:Oper}{s:Sem Value}{m':Mem}(he:execOp a.eval o=do pure (Next.value (<-s)))(h:yV P w0 O E w ν s p m'):Om P w0 O E w wd ν a o p m':=by
 obtain⟨x,w',E',kn,h1,h2,h3,h4⟩:=h;intro K Q hK;unfold Oper.wp;rw[he,ZjH kn];exact hK x w' E' h1 h2 h3 λl hl=>(h4 l hl).imp id λh=>YG
theorem Zhx(hk:Ok w0 O E w m){o:Oper}(h:Sk P E w a o p):Om P w0 O E w wd ν a o p m:=by
 obtain⟨x,kn,h3⟩:=h;intro K Q hK;unfold Oper.wp;rw[kn];exact hK x w E hk (Ext.refl w E) h3 λl hl=>.inl hl
theorem IF (hk : Ok w0 O E w m) (Av : ∀ i, i < wd -> ¬ E.used (ν + i)) {t : List PV} {o : Oper} {vs : Array Value} (hf : BW P f) (kn : ∀ fn, P.funcs[f]? = ZA fn -> fn.body.isSome = ZC -> (fn.name == "runtime.NumGoroutine") = ZD -> (execOp a.eval o).run P w = .ok (.enter f vs) w)
 (hl:vs.size=ps.length) (hr:∀(j:Nat) (p:PV) (x:Value),ps[j]?=ZA p->vs[j]?=ZA x->cN w E p x) (h:rz P io wd ν f ps m K):∃p m',K p m'/\Om P w0 O E w wd ν a o p m':=by
 obtain⟨fn,hf,IK,PK⟩:=hf;obtain⟨p,m',hK,xG⟩:=QD (P:=P) hk Av hl hr h;refine⟨p,m',hK,λK Q hKK=>?_⟩
 unfold Oper.wp;rw[kn fn hf IK PK,Oper.upon_enter];refine xG.mono ?_;rintro e w' ⟨v,E',rfl,h1,h2,h3,h4⟩;exact hKK v w' E' h1 h2 h3 h4
theorem OB{t:List PV}(ev:∀o:Operand,cN w E (fS t o) (a.eval o))(args:Array Operand)(j:Nat)(p:PV)(x:Value)(hp:(args.toList.map (fS t))[j]?=ZA p)(hx:(args.map a.eval)[j]?=ZA x):cN w E p x:=by
 rw[VZ]at hp
 rw[Array.getElem?_map]at hx
 cases hq:args[j]? with
 |none=>simp[hq]at hx
 |some q=>
  rw[Wx,hq]at hp
  rw[hq]at hx
  simp only[Wo,VR]at hp hx
  rw[<-hp,<-hx];exact ev q
theorem Jv(hk:Ok w0 O E w m)(PN:0<wd)(Av:∀i,i<wd->¬E.used (ν+i)){t:List PV}(ht:uP w E t a.tmps){o:Oper}(h:je P io wd ν o.op t m K):∃p m',K p m'/\Om P w0 O E w wd ν a o p m':=by
 have ev:=CO ht;have ZeT:¬E.used ν:=Av 0 PN;have red:sh P o.op t m (λp=>K p m)->∃p m',K p m'/\Om P w0 O E w wd ν a o p m':=λh=>by
  obtain⟨p,hK,hg⟩:=TZ hk ht h;exact⟨p,m,hK,Zhx hk hg⟩
 unfold je at h
 split at h
 ·rename_i T ho
  obtain⟨p,m',hK,hg⟩:=Nz (P:=P) hk ZeT h;exact⟨p,m',hK,CS PN YU hg⟩
 ·rename_i T x ho
  obtain⟨p,m',hK,hg⟩:=TD (P:=P) hk ZeT (ev x) h;exact⟨p,m',hK,CS PN YU hg⟩
 ·rename_i T n ps ho
  obtain⟨p,m',hK,hg⟩:=DG (P:=P) hk ZeT (vs:=ps.map fun(i,x)=>(i,a.eval x)) YJ (λj i p hj=>by
   rw[VZ]at hj
   cases hq:ps.toList[j]? with
   |none=>rw[hq]at hj;cases hj
   |some q=>
    rw[hq]at hj
    simp only[Wo,VR,Prod.mk.injEq]at hj
    obtain⟨rfl,rfl⟩:=hj;rw[Wx]at hq
    exact⟨a.eval q.2,by simp[hq],ev q.2⟩) h
  exact⟨p,m',hK,CS PN YU hg⟩
 ·rename_i T l c ho
  obtain⟨p,m',hK,hg⟩:=QG (P:=P) hk ZeT (ev l) (ev c) h;exact⟨p,m',hK,CS PN YU hg⟩
 ·rename_i T x y ho
  obtain⟨m',hK,w',kn,h1,h2⟩:=NJ (P:=P) hk (ev x) (ev y) h;refine⟨_,m',hK,λK Q hKK=>?_⟩
  unfold Oper.wp;simp only[execOp,ho,Sem.run_bind,kn,Result.andThen_ok,Sem.run_pure];exact hKK ZH w' E h1 h2 (.c .ud) λl hl=>.inl hl
 ·rename_i c ho
  split at h
  ·rename_i hc
   split at h
   ·rename_i s x T T' hx hT
    obtain⟨rfl,h⟩:=h;obtain⟨callee,args,argTypes⟩:=c;have ha:=Aj hx;have hTs:=Aj hT;simp only at hc ha hTs
    subst hc ha hTs;obtain⟨p,m',hK,hg⟩:=Kv (P:=P) (ty:=o.type) hk ZeT (ev s) (ev x) h;refine⟨p,m',hK,CS PN ?_ hg⟩;simp[execOp,ho,resolve,invoke,builtin]
   ·exact h.elim
  ·rename_i f hc
   obtain⟨hf,h⟩:=h;obtain⟨callee,args,argTypes⟩:=c;simp only at hc h
   subst hc;refine IF hk Av (t:=t) (vs:=args.map a.eval) hf (λfn hf IK PK=>?_) YJ (OB ev args) h
   have SY : (fn.name = "runtime.NumGoroutine") = False := by simpa using PK
   have ZkB:(fn.body=ZB)=False:=by
    simp only[eq_iff_iff,iff_false];intro hb;rw[hb]at IK;cases IK
   simp[execOp,ho,resolve,invoke,Act.eval,callFunc,Deferred.ofValue,hf,SY,ZkB]
  ·rename_i i hc
   split at h
   ·rename_i f cs hti
    obtain⟨_,hf,h⟩:=h;obtain⟨callee,args,argTypes⟩:=c;simp only at hc h
    subst hc;have hv:=ev (.tmp i);simp only[fS,hti]at hv
    obtain⟨us,hus,hul,hur⟩:=hv.Mt;refine IF hk Av (t:=t) (vs:=args.map a.eval++us) hf (λfn hf IK PK=>?_) (by simp[hul]) (λj p x hp hx=>?_) h
    ·have SY : (fn.name = "runtime.NumGoroutine") = False := by simpa using PK
     have ZkB:(fn.body=ZB)=False:=by
      simp only[eq_iff_iff,iff_false];intro hb;rw[hb]at IK;cases IK
     simp[execOp,ho,resolve,invoke,hus,callFunc,Deferred.ofValue,hf,SY,ZkB]
    ·have hal:(args.toList.map (fS t)).length=args.size:=by simp
     rcases Wg j args.size with hj|hj
     ·rw[Wi (by rw[hal];exact hj)]at hp
      rw[Array.getElem?_append_left Zs]at hx
      exact OB ev args j p x hp hx
     ·rw[V9 (by rw[hal];exact hj)]at hp
      rw[Array.getElem?_append_right Zs]at hx
      refine hur _ p x (by rw[hal]at hp;exact hp) (by simpa using hx)
   ·exact h.elim
  ·exact red h
 ·exact red h
theorem uP.ext{w':World}{E':Env}{t:List PV}{tm:Array Value}(h:uP w E t tm)(hx:Ext w w' E E'):uP w' E' t tm:=⟨h.1,λi p hp=>(h.2 i p hp).ext hx⟩
theorem uP.put{t:List PV}{a:Act}(h:uP w E t a.tmps){p:PV}{x:Value}(hp:cN w E p x)(d:Option Tmp):uP w E (jk t d p) (a.put d x).tmps:=by
 cases d with
 |none=>exact h
 |some d=>
  refine⟨by simp[Act.put,jk,h.1],λi q hq=>?_⟩
  simp only[jk]at hq
  simp only[Act.put]
  by_cases e:d=i
  ·subst e
   have hd:d<t.length:=by have:=(VH.1 hq).1;simpa using this
   rw[Wa hd]at hq
   cases hq
   have:(a.tmps.setIfInBounds d x).getD d ZH=x:=by simp[Xw,h.1,hd]
   rw[this];exact hp
  ·rw[Wk e]at hq
   have:(a.tmps.setIfInBounds d x).getD i ZH=a.tmps.getD i ZH:=by
    rw[Wv,Wv,Array.getElem?_setIfInBounds_ne e]
   rw[this];exact h.2 i q hq
theorem uP.bool{t:List PV}{tm:Array Value}(h:uP w E t tm){d:Nat}{c:Bool}(hc:t.getD d .un=.v (.bool c)):uP w E (t.set d (.v (.bool c))) tm:=by
 refine⟨by simp[h.1],λi q hq=>?_⟩
 by_cases e:d=i
 ·subst e
  have hd:d<t.length:=by have:=(VH.1 hq).1;simpa using this
  rw[Wa hd]at hq
  cases hq
  refine h.2 d _ ?_;rw[<-hc];simp[W8,VF hd]
 ·rw[Wk e]at hq
  exact h.2 i q hq
theorem IH{o:Oper}(h:o.guard=ZB)(y:Nat->Option Bool):Region.wanted o y=true:=by simp[Region.wanted,h]
theorem Px{o:Oper}{j:Nat}(h:o.guard=ZA (j,b))(hd:(ops[j]?).bind (·.dst)=ZB)(tm:Array Value):Region.wanted o (yielded ops tm)=false:=by
 simp[Region.wanted,h,yielded,hd]
theorem yp{o:Oper}{j d:Nat}{b c:Bool}(h:o.guard=ZA (j,b))(hd:(ops[j]?).bind (·.dst)=ZA d){t:List PV}(ht:uP w E t tm)(hc:t.getD d .un=.v (.bool c)):Region.wanted o (yielded ops tm)=(c==b):=by
 have bO:d<t.length:=by
  rcases Wg d t.length with h|h
  ·exact h
  ·simp[W8,Wz h]at hc
 have xl:=ht.2 d _ (VF bO);have hda:d<tm.size:=by rw[ht.1];exact bO
 have e1:tm.getD d ZH=tm[d]:=by simp[Xw,hda]
 have e2:t.getD d .un=t[d]:=by simp[W8,VF bO]
 rw[e1,<-e2,hc]at xl
 have:=xl.cF.1;simp only[Region.wanted,h,yielded,hd,VE,VU hda,this]
 cases c<;>cases b<;>rfl
theorem Py{o:Oper}{j d:Nat}(h:o.guard=ZA (j,b))(hd:(ops[j]?).bind (·.dst)=ZA d){t:List PV}(ht:uP w E t tm)(hc:t.getD d .un=.ud):Region.wanted o (yielded ops tm)=false:=by
 have bO:d<t.length:=by
  rcases Wg d t.length with h|h
  ·exact h
  ·simp[W8,Wz h]at hc
 have xl:=ht.2 d _ (VF bO);have hda:d<tm.size:=by rw[ht.1];exact bO
 have e1:tm.getD d ZH=tm[d]:=by simp[Xw,hda]
 have e2:t.getD d .un=t[d]:=by simp[W8,VF bO]
 rw[e1,<-e2,hc]at xl
 have hu:tm[d]=ZH:=by
  generalize tm[d]=z at xl
  cases xl with
  |c h=>cases h;rfl
 simp only[Region.wanted,h,yielded,hd,VE,VU hda,hu];rfl
theorem Cd{ops:Array Oper}{K:List PV->Mem->Prop}{Q:Exit->Act->World->Prop}:∀(l:List Oper) (t:List PV) (m:Mem) (E:Env) (w:World) (a:Act),Ok w0 O E w m->a.defers=[]->uP w E t a.tmps->vp P ops K l t m->
 (∀t m E' w' (a':Act),K t m->Ok w0 O E' w' m->Ext w w' E E'->a'.defers=[]->uP w' E' t a'.tmps->Q .normal a' w')->wpList P ops Q l a w
 | [],t,m,E,w,a,hk,hd,ht,h,hQ=>hQ t m E w a h hk (Ext.refl w E) hd ht
 |o::l,t,m,E,w,a,hk,hd,ht,h,hQ=>by
  have hdd:∀x,(a.put o.dst x).defers=[]:=λx=>by cases o.dst<;>exact hd
  have run:∀t',uP w E t' a.tmps->Region.wanted o (yielded ops a.tmps)=ZC->je P ZC 16 m.length o.op t' m (λp m'=>vp P ops K l (jk t' o.dst p) m')->wpList P ops Q (o::l) a w:=by
   intro t' Lb hw h;obtain⟨p,m',hK,hg⟩:=Jv hk YG (λi _ hu=>by have:=hk.used _ hu;omega) Lb h
   unfold wpList;rw[if_pos hw];exact .inl (hg _ _ λx w' E' h1 h2 h3 _=>Cd l _ m' E' w' _ h1 (hdd x) ((Lb.ext h2).put h3 o.dst) hK λt m E2 w2 a2 k1 k2 k3=>hQ t m E2 w2 a2 k1 k2 (h2.trans k3))
  have pass:∀t',uP w E t' a.tmps->Region.wanted o (yielded ops a.tmps)=ZD->vp P ops K l (jk t' o.dst .ud) m->wpList P ops Q (o::l) a w:=by
   intro t' Lb hw h;unfold wpList;rw[hw,if_neg YJ];exact Cd l _ m E w _ hk (hdd _) (Lb.put (.c .ud) o.dst) h hQ
  simp only[vp]at h
  split at h
  ·rename_i hg;exact run t ht (IH hg _) h
  ·rename_i j b hg
   split at h
   ·rename_i J4;exact pass t ht (Px hg J4 _) h
   ·rename_i d J4
    split at h
    ·rename_i c hc
     have hb:=yp hg J4 ht hc
     cases c with
     |true=>exact run _ (ht.bool hc) hb (h.1 rfl)
     |false=>exact pass _ (ht.bool hc) hb (h.2 rfl)
    ·rename_i c hc
     have hb:=yp hg J4 ht hc
     cases c with
     |true=>exact pass _ (ht.bool hc) hb (h.1 rfl)
     |false=>exact run _ (ht.bool hc) hb (h.2 rfl)
    ·rename_i hc;exact pass t ht (Py hg J4 ht hc) h
    ·exact h.elim
end
def qN:PV->List Nat
 |.ms l=>[l]
 |.ss l _ _=>[l]
 |.be l _ _=>[l]
 |_=>[]
def oR:PV->List Nat
 |.fn _ cs=>cs.flatMap qN
 |p=>qN p
def rC:PV->List Nat
 |.ag cs=>cs.flatMap oR
 |p=>oR p
def jf:PV->List Nat
 |.tu vs=>vs.flatMap rC
 |p=>rC p
def opM:Op->Bool
 |.move _|.assign _|.extract ..=>ZD
 |_=>ZC
def opR(o:Op)(t:List PV):List Nat:=match opM o with
 |true=>o.operands.toList.flatMap λx=>jf (fS t x)
 |false=>[]
def opW(o:Op)(t:List PV)(wd ν:Nat):List Nat:=
 match o with
 |.alloc _=>[ν]
 |.box _ _=>[ν]
 |.buildSlice _ _ _=>[ν]
 |.makeSlice _ _ _=>[ν]
 |.store _ a _=>jf (fS t a)
 |.call c=>match c.callee with
  |.builtin .append=>ν::(c.args.toList.take 1).flatMap λx=>jf (fS t x)
  |.builtin _=>[]
  |_=>Yh ν wd
 |_=>[]
abbrev Upd:=List (Nat×Option MB)
def tE(m:Mem)(q:Nat×Option MB):Mem:=(m++VW (q.1+1-m.length) ZB).set q.1 q.2
def app(u:Upd)(m:Mem):Mem:=u.foldl tE m
theorem yf{m:Mem}(h:l<m.length)(x:Option MB):app [(l,x)] m=m.set l x:=by
 simp only[app,Wj,Wf,tE];rw[show l+1-m.length=0 by omega];simp
def look(m:Mem)(l:Nat):Option MB:=(m[l]?).join
theorem jq{m:Mem}{mb:MB}:look m l=ZA mb↔m[l]?=ZA (ZA mb):=by
 unfold look
 cases h:m[l]? with
 |none=>simp
 |some x=>cases x<;>simp
theorem mQ{m:Mem}(K:MB->Prop):live m l K=match look m l with
 |some mb=>K mb
 |none=>False:=by
 unfold look live
 cases h:m[l]? with
 |none=>rfl
 |some x=>cases x<;>rfl
structure Same(o:Op)(t:List PV)(m:Mem)(t2:List PV)(m2:Mem):Prop where
 te:∀x∈o.operands.toList,fS t2 x=fS t x
 me:∀l∈opR o t,look m2 l=look m l
section
variable {P:Program} {m m2:Mem} {t t2:List PV} {o:Op}
theorem Same.refs(h:Same o t m t2 m2)(hm:opM o=ZC){x:Operand}(hx:x∈o.operands.toList)(hl:l∈jf (fS t x)):look m2 l=look m l:=h.me l (by unfold opR;rw[hm];exact W5.2 ⟨x,hx,hl⟩)
theorem kE(h:look m2 l=look m l)(K:MB->Prop):live m2 l K=live m l K:=by rw[mQ,mQ,h]
theorem ZcL(h:∀l∈jf p,look m2 l=look m l):Si m2 p=Si m p:=by
 cases p with
 |be l i o=>
  have e:=h l YX;have key:∀m:Mem,Si m (.be l i o)=(look m l).bind λmb=>(mb.es[i]?).map (·.drop o):=by
   intro m;unfold look Si
   cases h:m[l]? with
   |none=>simp[h]
   |some x=>cases x<;>simp[h]
  rw[key,key,e]
 |_=>rfl
theorem TI(h:∀l∈jf p,look m2 l=look m l):Kw m2 p=Kw m p:=by
 funext K
 cases p with
 |be l i o=>simp only[Kw,kE (h l YX)]
 |_=>rfl
theorem NC{S D:TypeId}(h:∀l∈jf p,look m2 l=look m l):uT P m2 S D p=uT P m S D p:=by
 funext K
 cases p with
 |ms l=>simp only[uT,kE (h l YX)]
 |_=>rfl
theorem NH{lo hi:Option PV}(h:∀l∈jf p,look m2 l=look m l):lq P m2 T p lo hi=lq P m T p lo hi:=by
 funext K
 cases p with
 |ms l=>
  have e:=kE (m:=m) (m2:=m2) (h l YX)
  cases hu:P.underlying T with
  |none=>simp only[lq,hu]
  |some d=>cases d<;>simp only[lq,hu,e]
 |ss l a b=>
  have e:=kE (m:=m) (m2:=m2) (h l YX)
  cases hu:P.underlying T with
  |none=>simp only[lq,hu]
  |some d=>cases d<;>simp only[lq,hu,e]
 |v x=>
  unfold lq
  cases hu:P.underlying T with
  |none=>rfl
  |some d=>cases d<;>first|rfl|(cases x<;>first|rfl|(rename_i A n c;cases A<;>first|rfl|(cases n<;>first|rfl|(cases c<;>rfl))))
 |_=>
  unfold lq
  cases hu:P.underlying T with
  |none=>rfl
  |some d=>cases d<;>rfl
theorem ER{f:Nat}(h:∀l∈jf p,look m2 l=look m l):lp P m2 T p f=lp P m T p f:=by
 funext K
 cases p with
 |be l i o=>
  have e:=kE (m:=m) (m2:=m2) (h l YX);simp only[lp,e]
 |_=>rfl
theorem ET{p q:PV}(h:∀l∈jf p,look m2 l=look m l):cI P m2 T p q=cI P m T p q:=by
 funext K
 cases p with
 |ms l=>
  have e:=kE (m:=m) (m2:=m2) (h l YX);simp only[cI,e]
 |ss l a b=>
  have e:=kE (m:=m) (m2:=m2) (h l YX);simp only[cI,e]
 |_=>rfl
theorem TF(h:∀l∈jf p,look m2 l=look m l):A8 P m2 T p=A8 P m T p:=by
 funext K
 cases p with
 |ms l=>
  have e:=kE (m:=m) (m2:=m2) (h l YX)
  cases hu:P.underlying T with
  |none=>simp only[A8,hu]
  |some d=>cases d<;>simp only[A8,hu,e]
 |ss l a b=>
  have e:=kE (m:=m) (m2:=m2) (h l YX)
  cases hu:P.underlying T with
  |none=>simp only[A8,hu]
  |some d=>cases d<;>simp only[A8,hu,e]
 |v x=>
  unfold A8
  cases hu:P.underlying T with
  |none=>rfl
  |some d=>cases d<;>first|rfl|(cases x<;>first|rfl|(rename_i A n c;cases A<;>first|rfl|(cases n<;>first|rfl|(cases c<;>rfl))))
 |_=>
  unfold A8
  cases hu:P.underlying T with
  |none=>rfl
  |some d=>cases d<;>rfl
theorem Rq(h:∀l∈jf p,look m2 l=look m l):rE m2 p=rE m p:=by
 cases p with
 |ms l=>
  have e:=h l YX;have key:∀m:Mem,rE m (.ms l)=(look m l).map (·.es):=by
   intro m;unfold look rE
   cases h:m[l]? with
   |none=>simp[h]
   |some x=>cases x<;>simp[h]
  rw[key,key,e]
 |ss l a b=>
  have e:=h l YX;have key:∀m:Mem,rE m (.ss l a b)=(look m l).map λmb=>(mb.es.drop a).take (b-a):=by
   intro m;unfold look rE
   cases h:m[l]? with
   |none=>simp[h]
   |some x=>cases x<;>simp[h]
  rw[key,key,e]
 |v x=>cases x<;>first|rfl|(rename_i A n c;cases A<;>first|rfl|(cases n<;>rfl))
 |_=>rfl
theorem kl(h:∀l∈oR p,look m2 l=look m l):DR m2 p=DR m p:=by
 funext K
 cases p with
 |ms l=>simp only[DR];rw[kE (h l (by simp[oR,qN]))]
 |ss l a b=>simp only[DR];rw[kE (h l (by simp[oR,qN]))]
 |_=>rfl
theorem FF:∀{cs:List PV},(∀l∈cs.flatMap oR,look m2 l=look m l)->JI m2 cs=JI m cs
 | [],_=>by funext K;rfl
 |c::cs,h=>by
  funext K
  simp only[JI];rw[kl λl hl=>h l (by simp[hl]),FF λl hl=>h l (by
   rw[List.flatMap_cons];exact Xr _ hl)]
theorem Rm(h:∀l∈jf p,look m2 l=look m l):JJ m2 p=JJ m p:=by
 funext K
 cases p with
 |ag cs=>simp only[JJ];rw[FF λl hl=>h l hl]
 |tu vs=>rfl
 |v x=>exact congrFun (kl (p:=.v x) λl hl=>h l hl) K
 |ud=>exact congrFun (kl (p:=.ud) λl hl=>h l hl) K
 |un=>exact congrFun (kl (p:=.un) λl hl=>h l hl) K
 |sl es=>exact congrFun (kl (p:=.sl es) λl hl=>h l hl) K
 |rp cs=>exact congrFun (kl (p:=.rp cs) λl hl=>h l hl) K
 |ms l=>exact congrFun (kl (p:=.ms l) λl hl=>h l hl) K
 |ss l a b=>exact congrFun (kl (p:=.ss l a b) λl hl=>h l hl) K
 |be l i o=>exact congrFun (kl (p:=.be l i o) λl hl=>h l hl) K
 |fn f cs=>exact congrFun (kl (p:=.fn f cs) λl hl=>h l hl) K
theorem FE:∀{cs:List PV},(∀l∈cs.flatMap jf,look m2 l=look m l)->DQ m2 cs=DQ m cs
 | [],_=>by funext K;rfl
 |c::cs,h=>by
  funext K
  simp only[DQ];rw[Rm λl hl=>h l (by simp[hl]),FE λl hl=>h l (by
   rw[List.flatMap_cons];exact Xr _ hl)]
theorem map_congr{xs:List Operand}(h:∀x∈xs,fS t2 x=fS t x):xs.map (fS t2)=xs.map (fS t):=WJ h
theorem TY(h:Same o t m t2 m2):sh P o t2 m2=sh P o t m:=by
 have hr:=fun(hm:opM o=ZC) {x:Operand} (hx:x∈o.operands.toList)=>(λl (hl:l∈jf (fS t x))=>h.refs hm hx hl)
 have ht:=λ{x:Operand} (hx:x∈o.operands.toList)=>h.te x hx
 funext K
 cases o with
 |move x=>simp only[sh];rw[ht YM]
 |assign x=>simp only[sh];rw[ht YM]
 |pick c a b=>simp only[sh];rw[ht (x:=c) YM,ht (x:=a) YM,ht (x:=b) YM]
 |load T x=>simp only[sh];rw[ht (x:=x) YM,ZcL (hr rfl (x:=x) YM)]
 |nilCheck x=>simp only[sh];rw[ht (x:=x) YM,TI (hr rfl (x:=x) YM)]
 |binOp op T x y Ty=>simp only[sh];rw[ht (x:=x) YM,ht (x:=y) YM]
 |unOp op T x=>simp only[sh];rw[ht (x:=x) YM]
 |convert S D x=>simp only[sh];rw[ht (x:=x) YM,NC (hr rfl (x:=x) YM)]
 |makeFunc fn first cs=>
  simp only[sh];rw[map_congr λx hx=>ht (x:=x) (by simp only[Op.operands,XN,WD];exact .inr hx)]
 |slice T x lo hi mx=>
  cases mx with
  |some _=>rfl
  |none=>
   simp only[sh];rw[ht (x:=x) YM,NH (hr rfl (x:=x) YM)];have e1:lo.map (fS t2)=lo.map (fS t):=by
    cases lo with
    |none=>rfl
    |some z=>simp only[Wo];rw[ht (x:=z) YM]
   have e2:hi.map (fS t2)=hi.map (fS t):=by
    cases hi with
    |none=>rfl
    |some z=>simp only[Wo];rw[ht (x:=z) YM]
   rw[e1,e2]
 |fieldAddr S x f=>simp only[sh];rw[ht (x:=x) YM,ER (hr rfl (x:=x) YM)]
 |field T x f=>simp only[sh];rw[ht (x:=x) YM]
 |indexAddr T x i=>simp only[sh];rw[ht (x:=x) YM,ht (x:=i) YM,ET (hr rfl (x:=x) YM)]
 |index T x i=>simp only[sh];rw[ht (x:=x) YM,ht (x:=i) YM]
 |extract x i=>simp only[sh];rw[ht (x:=x) YM]
 |build T ps=>
  simp only[sh];have:(ps.toList.map λq=>(q.1,fS t2 q.2))=ps.toList.map λq=>(q.1,fS t q.2):=WJ λq hq=>by
   rw[ht (x:=q.2) Zk]
  rw[this]
 |call c=>
  have ha:∀x∈c.args.toList,x∈(Op.call c).operands.toList:=λx hx=>by
   simp only[Op.operands,Call.operands,XN,WD];exact .inr hx
  simp only[sh];have e:=map_congr (xs:=c.args.toList) λx hx=>ht (ha x hx)
  split
  ·split
   ·rename_i x T hx hT
    have vQ:x∈c.args.toList:=by rw[hx];simp
    rw[ht (ha x vQ),TF (hr rfl (ha x vQ))]
   ·rfl
  ·rw[e]
  ·rw[e]
  ·rfl
 |_=>rfl
theorem ZfS{K:PV->Prop}(h:sh P o t m K):∃p,K p/\sh P o t m λp'=>p'=p:=by
 have L:∀{T:TypeId} {cs:Option (List PV)} {K:PV->Prop},va P T cs K->∃p,K p/\va P T cs λp'=>p'=p:=by
  intro T cs K h;unfold va at *
  split at h
  ·rename_i d sm hd gl
   split at h
   ·rename_i J3;exact⟨_,h.2,by simp only[J3];exact⟨h.1,trivial⟩⟩
   ·rename_i J3
    split at h
    ·exact⟨_,h,by simp only[J3]⟩
    ·exact h.elim
  ·exact h.elim
 have Lv:∀{l:Nat} {A:MB->Prop},live m l A->∃mb,m[l]?=ZA (ZA mb)/\A mb:=λh=>iE h
 have Lw:∀{l:Nat} {A:MB->Prop} {mb:MB},m[l]?=ZA (ZA mb)->A mb->live m l A:=by
  intro l A mb h1 h2;unfold live;rw[h1];exact h2
 unfold sh at *
 split at h<;>(try exact h.elim)
 ·exact⟨_,h,rfl⟩
 ·exact⟨_,h,rfl⟩
 ·split at h
  ·rename_i hc;exact⟨_,h,by simp only[hc]⟩
  ·exact h.elim
 ·exact L h
 ·unfold Kw at *
  split at h
  ·rename_i hx
   obtain⟨mb,h1,h2⟩:=Lv h;exact⟨_,h2,by simp only[hx];exact Lw h1 trivial⟩
  ·rename_i hx;exact⟨_,h,by simp only[hx]⟩
  ·exact h.elim
 ·unfold QC at *
  split at h
  ·rename_i h1 h2
   unfold Nv at *
   split at h
   ·rename_i hr;exact⟨_,h,by simp only[h1,h2,hr]⟩
   ·exact h.elim
  ·rename_i h1 h2
   unfold yS at *
   obtain⟨hg,h⟩:=h
   split at h
   ·rename_i hr1 hr2
    split at h
    ·exact⟨_,h,by simp only[h1,h2,hg,hr1,hr2];exact⟨trivial,trivial⟩⟩
    ·exact⟨_,h,by simp only[h1,h2,hg,hr1,hr2];exact⟨trivial,trivial⟩⟩
    ·exact h.elim
   ·exact h.elim
  ·exact h.elim
 ·unfold pUn at *
  split at h
  ·rename_i h1;exact⟨_,h,by simp only[h1]⟩
  ·rename_i h1;exact⟨_,h,by simp only[h1]⟩
  ·exact h.elim
 ·unfold uT at *
  split at h
  ·rename_i h1
   split at h
   ·rename_i h2 h3
    obtain⟨he,h⟩:=h;obtain⟨mb,g1,gk,h⟩:=Lv h
    split at h
    ·rename_i hb
     exact⟨_,h,by simp only[h1,h2,h3];exact⟨he,Lw g1 ⟨gk,by simp only[hb]⟩⟩⟩
    ·exact h.elim
   ·exact h.elim
  ·rename_i h0
   have key:∀{S D:TypeId} {x:PV} {K:PV->Prop},Jo P S D x K->∃p,K p/\Jo P S D x λp'=>p'=p:=by
    intro S D x K h;unfold Jo at *
    split at h
    ·rename_i h1 h2;exact⟨_,h,by simp only[h1,h2]⟩
    ·rename_i h1 h2;exact⟨_,h,by simp only[h1,h2]⟩
    ·exact h.elim
   obtain⟨p,h1,h2⟩:=key h;exact⟨p,h1,h2⟩
 ·rename_i fn first cs
  split at h
  ·rename_i hf;exact⟨_,h,by simp only[hf]⟩
  ·exact h.elim
 ·split at h
  ·unfold lq at *
   split at h
   ·rename_i h1 h2
    split at h
    ·rename_i h3 h4
     obtain⟨a,b,c,d⟩:=h;exact⟨_,d,by simp only[h1,h2,h3,h4];exact⟨a,b,c,trivial⟩⟩
    ·exact h.elim
   ·rename_i h1 h2
    split at h
    ·rename_i h3 h4
     obtain⟨a,b,c,d,e,f⟩:=h;exact⟨_,f,by simp only[h1,h2,h3,h4];exact⟨a,b,c,d,e,trivial⟩⟩
    ·exact h.elim
   ·rename_i h1 h2
    obtain⟨mb,g1,h⟩:=Lv h
    split at h
    ·rename_i h3 h4
     obtain⟨a,b,c,d,e,f⟩:=h;exact⟨_,f,by simp only[h1,h2];exact Lw g1 (by simp only[h3,h4];exact⟨a,b,c,d,e,trivial⟩)⟩
    ·exact h.elim
   ·rename_i h1 h2
    obtain⟨mb,g1,h⟩:=Lv h
    split at h
    ·rename_i h3 h4
     obtain⟨a,b,c,d,e,f⟩:=h;exact⟨_,f,Lw g1 ⟨a,b,c,d,e,rfl⟩⟩
    ·exact h.elim
   ·rename_i h1 h2
    split at h
    ·rename_i h3 h4
     obtain⟨a,b,c,d,e⟩:=h;exact⟨_,e,by simp only[h1,h2,h3,h4];exact⟨a,b,c,d,trivial⟩⟩
    ·exact h.elim
   ·exact h.elim
  ·exact h.elim
 ·unfold lp at *
  split at h
  ·rename_i h1
   split at h
   ·rename_i h2
    obtain⟨hp,h⟩:=h
    split at h
    ·rename_i h3
     obtain⟨mb,g1,h⟩:=Lv h;exact⟨_,h,by simp only[h1,h2,h3];exact⟨hp,Lw g1 trivial⟩⟩
    ·rename_i h3;exact⟨_,h,by simp only[h1,h2,h3];exact⟨hp,trivial⟩⟩
    ·exact h.elim
   ·exact h.elim
  ·exact h.elim
 ·unfold zO at *
  split at h
  ·rename_i h1
   split at h
   ·rename_i h2 h3
    obtain⟨p,h4,h5⟩:=L h;exact⟨p,h4,h5⟩
   ·exact h.elim
  ·exact h.elim
 ·unfold cI at *
  split at h
  ·rename_i h1 h2
   split at h
   ·rename_i h3
    obtain⟨a,b,c,d,e⟩:=h;exact⟨_,e,by simp only[h1,h2,h3];exact⟨a,b,c,d,trivial⟩⟩
   ·rename_i h3
    obtain⟨mb,g1,a,b,c,d⟩:=Lv h;exact⟨_,d,by simp only[h1,h2,h3];exact Lw g1 ⟨a,b,c,trivial⟩⟩
   ·rename_i h3
    obtain⟨mb,g1,a,b,c,d⟩:=Lv h;exact⟨_,d,by simp only[h1,h2,h3];exact Lw g1 ⟨a,b,c,trivial⟩⟩
   ·exact h.elim
  ·exact h.elim
 ·unfold vX at *
  split at h
  ·rename_i h1 h2 h3
   obtain⟨a,b,c⟩:=h;exact⟨_,c,by simp only[h1,h2,h3];exact⟨a,b,trivial⟩⟩
  ·exact h.elim
 ·unfold QF at *
  split at h
  ·rename_i h1
   split at h
   ·rename_i h2;exact⟨_,h,by simp only[h1,h2]⟩
   ·exact h.elim
  ·exact h.elim
 ·unfold zN at *
  split at h
  ·rename_i h1
   obtain⟨hp,h⟩:=h
   split at h
   ·rename_i h2
    split at h
    ·rename_i h3;exact⟨_,h,by simp only[h1,h2,h3];exact⟨hp,trivial⟩⟩
    ·exact h.elim
   ·exact h.elim
  ·exact h.elim
 ·split at h
  ·rename_i hc
   split at h
   ·rename_i h1 h2
    unfold A8 at *
    split at h
    ·rename_i h3 h4;exact⟨_,h,by simp only[h3,h4]⟩
    ·rename_i h3 h4;exact⟨_,h,by simp only[h3,h4]⟩
    ·rename_i h3 h4;exact⟨_,h,by simp only[h3,h4]⟩
    ·rename_i h3 h4
     obtain⟨mb,g1,h⟩:=Lv h;exact⟨_,h,by simp only[h3,h4];exact Lw g1 rfl⟩
    ·rename_i h3 h4
     obtain⟨mb,g1,h⟩:=Lv h;exact⟨_,h,Lw g1 rfl⟩
    ·exact h.elim
   ·exact h.elim
  ·rename_i hc
   unfold ta at *
   split at h
   ·rename_i h1;exact⟨_,h,by simp only[h1];simp⟩
   ·exact h.elim
  ·rename_i hc
   unfold ta at *
   split at h
   ·rename_i h1;exact⟨_,h,by simp only[h1];simp⟩
   ·exact h.elim
  ·exact h.elim
end
section
variable {P:Program} {m m2:Mem} {t t2:List PV} {o:Op}
def yI(σ:Nat->Nat):Nat->Mem->Upd
 |_,[]=>[]
 |ν,x::m1=>(ν,x.map (nL σ))::yI σ (ν+1) m1
theorem si(σ:Nat->Nat):∀(ν:Nat) (m1 m:Mem),jy σ ν m1 m=app (yI σ ν m1) m
 |ν,[],m=>by unfold jy;rfl
 |ν,ZA mb::m1,m=>by unfold jy;rw[si σ (ν+1) m1];rfl
 |ν,ZB::m1,m=>by unfold jy;rw[si σ (ν+1) m1];rfl
theorem yJ(σ:Nat->Nat):∀(ν:Nat) (m1:Mem) (q:Nat×Option MB),q∈yI σ ν m1->ν<=q.1/\q.1<ν+m1.length
 |ν,[],q,h=>by simp[yI]at h
 |ν,x::m1,q,h=>by
  simp only[yI,VM]at h
  rcases h with rfl|h
  ·simp
  ·have:=yJ σ (ν+1) m1 q h
   simp only[List.length_cons];omega
theorem mem_range'{ν k n:Nat}:k∈Yh ν n↔ν<=k/\k<ν+n:=List.mem_range'_1
theorem FC(h:rz P ZD wd ν f ps m K):
 ∃p u,K p (app u m)/\(∀q∈u,q.1∈Yh ν wd)/\∀m2,(∀l∈ps.flatMap jf,look m2 l=look m l)->rz P ZD wd ν f ps m2 λp' m'=>p'=p/\m'=app u m2:=by
 rcases h with⟨r,m1,hs,h16,Sc,SR,hK⟩ |⟨ρ,m0,qs,r,m1,Bs,hc,hle,h16,Kh,hqs,hn,As,Sc,SR,hK⟩
 ·refine⟨DJ (sig [] ν) r,yI (sig [] ν) ν m1,by rw[<-si];exact hK,λq hq=>?_,λm2 Ft=>.inl ⟨r,m1,by rw[FE Ft];exact hs,h16,Sc,SR,rfl,si _ _ _ _⟩⟩
  rw[mem_range'];have:=yJ _ _ _ q hq;omega
 ·obtain rfl:ρ=[]:=by simpa using Bs
  have h0:m0=[]:=by
   have:=(vS As).1;exact W4.1 this.symm
  subst h0;simp only[VO,Ys,qi]at hK
  refine⟨DJ (sig [] ν) r,yI (sig [] ν) ν m1,by rw[<-si];exact hK,λq hq=>?_,λm2 Ft=>.inr ⟨[],[],qs,r,m1,.inr rfl,hc,hle,h16,Kh,hqs,hn,trivial,Sc,SR,rfl,?_⟩⟩
  ·rw[mem_range']
   have:=yJ _ _ _ q hq;simp only[VO]at h16
   omega
  ·simp only[VO,Ys,qi];exact si _ _ _ _
theorem TU(h:je P ZD wd ν o t m K):
 ∃p u,K p (app u m)/\(∀q∈u,q.1∈opW o t wd ν)/\∀t2 m2,Same o t m t2 m2->je P ZD wd ν o t2 m2 λp' m'=>p'=p/\m'=app u m2:=by
 have red:∀{K:PV->Prop},sh P o t m K->∃p,K p/\∀t2 m2,Same o t m t2 m2->sh P o t2 m2 λp'=>p'=p:=by
  intro K h;obtain⟨p,h1,h2⟩:=ZfS h;exact⟨p,h1,λt2 m2 hs=>by rw[TY hs];exact h2⟩
 have imp:∀{t2 m2 p},sh P o t2 m2 (λp'=>p'=p)->sh P o t2 m2 λp'=>p'=p/\m2=app [] m2:=by
  intro t2 m2 p h;have:(λp'=>p'=p/\m2=app [] m2)=λp'=>p'=p:=by funext p';simp[app]
  rw[this];exact h
 cases o with
 |alloc T=>
  simp only[je]at *
  unfold EP at *
  split at h
  ·rename_i c cs hz
   exact⟨_,[(ν,ZA _)],h,by simp[opW],λt2 m2 _=>by simp only[hz];exact⟨trivial,rfl⟩⟩
  ·exact h.elim
 |box T x=>
  simp only[je]at *
  unfold EP at *
  split at h
  ·rename_i c cs hz
   exact⟨_,[(ν,ZA _)],h,by simp[opW],λt2 m2 hs=>by rw[hs.te x YM];simp only[hz];exact⟨trivial,rfl⟩⟩
  ·exact h.elim
 |buildSlice T n ps=>
  simp only[je]at *
  have e:∀{t2 m2},Same (.buildSlice T n ps) t m t2 m2->(ps.toList.map λq=>(q.1,fS t2 q.2))=ps.toList.map λq=>(q.1,fS t q.2):=λhs=>WJ λq hq=>by
   rw[hs.te q.2 Zk]
  unfold nJ at *
  split at h
  ·rename_i e1 hu
   split at h
   ·rename_i zc hz
    obtain⟨h1,h2,h3,h⟩:=h
    split at h
    ·rename_i cs hf
     exact⟨_,[(ν,ZA _)],h,by simp[opW],λt2 m2 hs=>by rw[e hs];simp only[hu,hz,hf];exact⟨h1,h2,h3,trivial,rfl⟩⟩
    ·exact h.elim
   ·exact h.elim
  ·exact h.elim
 |makeSlice T l c=>
  simp only[je]at *
  unfold zP at *
  split at h
  ·rename_i e n n' hu hl hc
   split at h
   ·rename_i zc hz
    obtain⟨h1,h2,h3,h4,h5,h6,h⟩:=h;exact⟨_,[(ν,ZA _)],h,by simp[opW],λt2 m2 hs=>by
     rw[hs.te l YM,hs.te c YM];simp only[hu,hl,hc,hz];exact⟨h1,h2,h3,h4,h5,h6,trivial,rfl⟩⟩
   ·exact h.elim
  ·exact h.elim
 |store T x y=>
  simp only[je]at *
  unfold zQ at *
  split at h
  ·rename_i l i o qs hx hq
   obtain⟨mb,hm,h⟩:=iE h
   split at h
   ·rename_i cs gl
    obtain⟨h1,h2,h3,h⟩:=h;have hl:l<m.length:=(VH.1 hm).1;refine⟨_,[(l,ZA _)],by rw[yf hl];exact h,by simp[opW,hx,jf,rC,oR,qN],λt2 m2 hs=>?_⟩
    have Ft:m2[l]?=ZA (ZA mb):=jq.1 ((hs.refs rfl (x:=x) YM (by simp[hx,jf,rC,oR,qN])).trans (jq.2 hm))
    rw[hs.te x YM,hs.te y YM];simp only[hx,hq,live,Ft,gl];exact⟨h1,h2,h3,trivial,(yf (VH.1 Ft).1 _).symm⟩
   ·exact h.elim
  ·exact h.elim
 |call c=>
  have ha:∀x∈c.args.toList,x∈(Op.call c).operands.toList:=λx hx=>by
   simp only[Op.operands,Call.operands,XN,WD];exact .inr hx
  have ZbO:∀{t2 m2},Same (.call c) t m t2 m2->c.args.toList.map (fS t2)=c.args.toList.map (fS t):=λhs=>map_congr λx hx=>hs.te x (ha x hx)
  have hrefs:∀{t2 m2},Same (.call c) t m t2 m2->∀l∈(c.args.toList.map (fS t)).flatMap jf,look m2 l=look m l:=λhs l hl=>by
   simp only[W5,List.mem_map]at hl
   obtain⟨p,⟨x,hx,rfl⟩,hl⟩:=hl;exact hs.refs rfl (ha x hx) hl
  simp only[je]at *
  split at h
  ·rename_i hc
   split at h
   ·rename_i s x T T' hx hT
    obtain⟨hTT,h⟩:=h;have hs':s∈c.args.toList:=by rw[hx];simp
    have vQ:x∈c.args.toList:=by rw[hx];simp
    have hrw:∀{t2 m2},Same (.call c) t m t2 m2->fS t2 s=fS t s/\fS t2 x=fS t x/\rE m2 (fS t x)=rE m (fS t x):=λhs=>⟨hs.te s (ha s hs'),hs.te x (ha x vQ),Rq λl hl=>hs.refs rfl (ha x vQ) hl⟩
    unfold fV at h
    split at h
    ·rename_i e hu
     split at h
     ·rename_i zc es hz zq
      obtain⟨h1,h2,h3,h⟩:=h
      split at h
      ·rename_i l D2
       obtain⟨mb,hm,g1,g2,g3,g4,h⟩:=iE h;have hl:l<m.length:=(VH.1 hm).1;refine⟨_,[(l,ZB),(ν,ZA _)],by simp only[app,Wj,Wf];rw[show tE m (l,ZB)=m.set l ZB from yf hl ZB];exact h,?_,λt2 m2 hs=>?_⟩
       ·intro q hq
        simp only[opW,hc,VM,VP,or_false]at hq⊢
        rcases hq with rfl|rfl
        ·exact .inr (W5.2 ⟨s,by rw[hx];simp,by simp[D2,jf,rC,oR,qN]⟩)
        ·exact .inl rfl
       ·obtain⟨e1,e2,e3⟩:=hrw hs
        have Ft:m2[l]?=ZA (ZA mb):=jq.1 ((hs.refs rfl (ha s hs') (by simp[D2,jf,rC,oR,qN])).trans (jq.2 hm))
        refine⟨hTT,?_⟩;unfold fV;rw[e1,e2];simp only[hu,hz,e3,zq,D2,live,Ft];refine⟨h1,h2,h3,g1,g2,g3,g4,trivial,?_⟩;simp only[app,Wj,Wf];rw[show tE m2 (l,ZB)=m2.set l ZB from yf (VH.1 Ft).1 ZB];rfl
      ·rename_i l a b D2
       obtain⟨h0,h⟩:=h;obtain⟨mb,hm,g1,g2,g5,g3,g4,h⟩:=iE h;have hl:l<m.length:=(VH.1 hm).1;refine⟨_,[(l,ZB),(ν,ZA _)],by simp only[app,Wj,Wf];rw[show tE m (l,ZB)=m.set l ZB from yf hl ZB];exact h,?_,λt2 m2 hs=>?_⟩
       ·intro q hq
        simp only[opW,hc,VM,VP,or_false]at hq⊢
        rcases hq with rfl|rfl
        ·exact .inr (W5.2 ⟨s,by rw[hx];simp,by simp[D2,jf,rC,oR,qN]⟩)
        ·exact .inl rfl
       ·obtain⟨e1,e2,e3⟩:=hrw hs
        have Ft:m2[l]?=ZA (ZA mb):=jq.1 ((hs.refs rfl (ha s hs') (by simp[D2,jf,rC,oR,qN])).trans (jq.2 hm))
        refine⟨hTT,?_⟩;unfold fV;rw[e1,e2];simp only[hu,hz,e3,zq,D2,live,Ft];refine⟨h1,h2,h3,h0,g1,g2,g5,g3,g4,trivial,?_⟩;simp only[app,Wj,Wf];rw[show tE m2 (l,ZB)=m2.set l ZB from yf (VH.1 Ft).1 ZB];rfl
      ·rename_i D2
       obtain⟨g3,g4,h⟩:=h;refine⟨_,[(ν,ZA _)],h,by simp[opW,hc],λt2 m2 hs=>?_⟩
       obtain⟨e1,e2,e3⟩:=hrw hs;refine⟨hTT,?_⟩;unfold fV;rw[e1,e2];simp only[hu,hz,e3,zq,D2];exact⟨h1,h2,h3,g3,g4,trivial,rfl⟩
      ·exact h.elim
     ·exact h.elim
    ·exact h.elim
   ·exact h.elim
  ·rename_i f hc
   obtain⟨hf,h⟩:=h;obtain⟨p,u,h1,h2,h3⟩:=FC h;refine⟨p,u,h1,by simp only[opW,hc];exact h2,λt2 m2 hs=>⟨hf,?_⟩⟩
   rw[ZbO hs];exact h3 m2 (hrefs hs)
  ·rename_i i hc
   have hi:Operand.tmp i∈(Op.call c).operands.toList:=by simp[Op.operands,Call.operands,hc]
   split at h
   ·rename_i f cs hti
    obtain⟨hR,hf,h⟩:=h;obtain⟨p,u,h1,h2,h3⟩:=FC h;refine⟨p,u,h1,by simp only[opW,hc];exact h2,λt2 m2 hs=>?_⟩
    have e1:=hs.te _ hi;simp only[fS,hti]at e1
    rw[e1,ZbO hs];refine⟨hR,hf,h3 m2 λl hl=>?_⟩
    rw[List.flatMap_append,WD]at hl
    rcases hl with hl|hl
    ·exact hrefs hs l hl
    ·have hfn:fS t (.tmp i)=.fn f cs:=hti
     refine hs.refs rfl hi ?_;rw[hfn];simp only[jf,rC,oR];obtain⟨c1,Kc,hl1⟩:=W5.1 hl;refine W5.2 ⟨c1,Kc,?_⟩;have hR1:=hR c1 Kc
     cases c1<;>first|exact hl1|simp[I2]at hR1
   ·exact h.elim
  ·obtain⟨p,h1,h2⟩:=red h
   exact⟨p,[],h1,by simp,λt2 m2 hs=>imp (h2 t2 m2 hs)⟩
 |_=>
  simp only[je]at *
  obtain⟨p,h1,h2⟩:=red h;exact⟨p,[],h1,by simp,λt2 m2 hs=>imp (h2 t2 m2 hs)⟩
end
/-! Zn2. -/
theorem Cx(m:Mem)(q:Nat×Option MB)(l:Nat):(tE m q)[l]?=if l=q.1 then ZA q.2 else if l<m.length then m[l]? else if l<q.1+1 then ZA ZB else none:=by
 unfold tE
 by_cases h:l=q.1
 ·subst h
  rw[if_pos rfl,Wa YR]
 ·rw[if_neg h,Wk (λe=>h e.symm)]
  rcases Wg l m.length with h1|h1
  ·rw[if_pos h1,Wi h1]
  ·rw[if_neg YG,V9 h1,List.getElem?_replicate]
   split
   ·rw[if_pos YG]
   ·rw[if_neg YG]
theorem Zdu(m:Mem)(q:Nat×Option MB):(tE m q).length=max m.length (q.1+1):=by simp[tE];omega
theorem ZaV(m:Mem){q r:Nat×Option MB}(h:q.1≠r.1):tE (tE m q) r=tE (tE m r) q:=by
 apply List.ext_getElem?;intro l;simp only[Cx,Zdu]
 by_cases h1:l=q.1<;>by_cases h2:l=r.1
 ·exact absurd (h1.symm.trans h2) h
 ·subst h1;simp only[h2,if_true,if_false];(repeat' split)<;>first|rfl|(exfalso;omega)
 ·subst h2;simp only[h1,if_true,if_false];(repeat' split)<;>first|rfl|(exfalso;omega)
 ·simp only[h1,h2,if_false]
  (repeat' split)<;>first|rfl|(exfalso;omega)
theorem Oy{q:Nat×Option MB}:∀(u:Upd) (m:Mem),(∀r∈u,q.1≠r.1)->app u (tE m q)=tE (app u m) q
 | [],m,_=>rfl
 |r::u,m,h=>by
  show app u (tE (tE m q) r)=tE (app u (tE m r)) q;rw[ZaV m (h r Wc),Oy u _ λr' hr'=>h r' (V5 _ hr')]
theorem Oz:∀(u v:Upd) (m:Mem),(∀q∈u,∀r∈v,q.1≠r.1)->app v (app u m)=app u (app v m)
 | [],v,m,_=>rfl
 |q::u,v,m,h=>by
  show app v (app u (tE m q))=app u (tE (app v m) q);rw[Oz u v _ λq' Ki r hr=>h q' (V5 _ Ki) r hr,Oy v m λr hr=>h q Wc r hr]
theorem EF{m:Mem}(h:q.1≠l):look (tE m q) l=look m l:=by
 unfold look;rw[Cx,if_neg (λe=>h e.symm)]
 by_cases h1:l<m.length
 ·rw[if_pos h1]
 ·rw[if_neg h1,Wz YG]
  split<;>rfl
theorem Gq{m m':Mem}(h:look m l=look m' l):look (tE m q) l=look (tE m' q) l:=by
 by_cases e:q.1=l
 ·unfold look
  rw[Cx,Cx,if_pos e.symm,if_pos e.symm]
 ·rw[EF e,EF e,h]
theorem zz{l:Nat}:∀(u:Upd) {m m':Mem},look m l=look m' l->look (app u m) l=look (app u m') l
 | [],_,_,h=>h
 |q::u,_,_,h=>zz u (Gq h)
theorem I9{l:Nat}:∀(u:Upd) (m:Mem),(∀q∈u,q.1≠l)->look (app u m) l=look m l
 | [],_,_=>rfl
 |q::u,m,h=>(I9 u _ λr hr=>h r (V5 _ hr)).trans (EF (h q Wc))
/-! The state behind the Zlg of L. -/
structure RA where
 d:Option Tmp
 p:PV
 u:Upd
def zX(L:Nat->Bool):Nat->List RA->List PV->List PV
 |_,[],t=>t
 |i,a::as_,t=>zX L (i+1) as_ (if L i=ZC then jk t a.d a.p else t)
def stM(L:Nat->Bool):Nat->List RA->Mem->Mem
 |_,[],m=>m
 |i,a::as_,m=>stM L (i+1) as_ (if L i=ZC then app a.u m else m)
theorem ZfW(t:List PV)(d:Option Tmp)(p:PV):(jk t d p).length=t.length:=by cases d<;>simp[jk]
theorem ZcC{t t':List PV}{d:Option Tmp}(hl:t.length=t'.length)(h:t.getD s .un=t'.getD s .un):(jk t d p).getD s .un=(jk t' d p).getD s .un:=by
 cases d with
 |none=>exact h
 |some d=>
  simp only[jk,W8,List.getElem?_set,hl]
  split
  ·rfl
  ·exact h
theorem Zaj{t:List PV}{d:Option Tmp}(h:d≠ZA s):(jk t d p).getD s .un=t.getD s .un:=by
 cases d with
 |none=>rfl
 |some d=>
  have:d≠s:=λe=>h (by rw[e])
  simp only[jk,W8,Wk this]
theorem ZcB{t:List PV}{d e:Option Tmp}{p q:PV}(h:d=ZB\/d≠e):jk (jk t d p) e q=jk (jk t e q) d p:=by
 cases d with
 |none=>rfl
 |some d=>
  cases e with
  |none=>rfl
  |some e=>
   have:d≠e:=λh'=>by rcases h with h|h<;>simp_all
   simp only[jk];exact List.set_comm _ _ this
theorem LP{L L':Nat->Bool}{s:Nat}:∀(as_:List RA) (i:Nat) (t t':List PV),t.length=t'.length->t.getD s .un=t'.getD s .un->(∀k a,as_[k]?=ZA a->L (i+k)≠L' (i+k)->a.d≠ZA s)->(zX L i as_ t).getD s .un=(zX L' i as_ t').getD s .un
 | [],_,_,_,_,h,_=>h
 |a::as_,i,t,t',hl,h,hd=>by
  simp only[zX];have h0:=hd 0 a rfl;simp only[Xg]at h0
  refine LP as_ (i+1) _ _ ?_ ?_ λk b hk dX=>hd (k+1) b Y2 YQ
  ·split<;>split<;>simp[ZfW,hl]
  ·cases h1:L i<;>cases h2:L' i<;>simp only[WU,if_false,if_true]
   ·exact h
   ·rw[Zaj (h0 Zz)];exact h
   ·rw[Zaj (h0 Zz)];exact h
   ·exact ZcC hl h
theorem LO{L L':Nat->Bool}{l:Nat}:∀(as_:List RA) (i:Nat) (m m':Mem),look m l=look m' l->(∀k a,as_[k]?=ZA a->L (i+k)≠L' (i+k)->∀q∈a.u,q.1≠l)->look (stM L i as_ m) l=look (stM L' i as_ m') l
 | [],_,_,_,h,_=>h
 |a::as_,i,m,m',h,hd=>by
  simp only[stM];have h0:=hd 0 a rfl;simp only[Xg]at h0
  refine LO as_ (i+1) _ _ ?_ λk b hk dX=>hd (k+1) b Y2 YQ
  cases h1:L i<;>cases h2:L' i<;>simp only[WU,if_false,if_true]
  ·exact h
  ·rw[I9 _ _ (h0 Zz)];exact h
  ·rw[I9 _ _ (h0 Zz)];exact h
  ·exact zz _ h
theorem JP{L:Nat->Bool}{d:Option Tmp}{p:PV}:∀(as_:List RA) (i:Nat) (t:List PV),(∀k a,as_[k]?=ZA a->L (i+k)=ZC->d=ZB\/d≠a.d)->zX L i as_ (jk t d p)=jk (zX L i as_ t) d p
 | [],_,_,_=>rfl
 |a::as_,i,t,h=>by
  simp only[zX];have h0:=h 0 a rfl;simp only[Xg]at h0
  cases h1:L i
  ·simp only[WU,if_false]
   exact JP as_ (i+1) t λk b hk hL=>h (k+1) b Y2 YQ
  ·simp only[if_true]
   rw[ZcB (h0 h1)];exact JP as_ (i+1) _ λk b hk hL=>h (k+1) b Y2 YQ
theorem JN{L:Nat->Bool}{u:Upd}:∀(as_:List RA) (i:Nat) (m:Mem),(∀k a,as_[k]?=ZA a->L (i+k)=ZC->∀q∈u,∀r∈a.u,q.1≠r.1)->stM L i as_ (app u m)=app u (stM L i as_ m)
 | [],_,_,_=>rfl
 |a::as_,i,m,h=>by
  simp only[stM];have h0:=h 0 a rfl;simp only[Xg]at h0
  cases h1:L i
  ·simp only[WU,if_false]
   exact JN as_ (i+1) m λk b hk hL=>h (k+1) b Y2 YQ
  ·simp only[if_true]
   rw[Oz u a.u m (h0 h1)];exact JN as_ (i+1) _ λk b hk hL=>h (k+1) b Y2 YQ
def ins(L:Nat->Bool)(j:Nat):Nat->Bool:=λi=>if i=j then ZC else L i
theorem Uz{L L':Nat->Bool}:∀(as_:List RA) (i:Nat) (t:List PV),(∀k,k<as_.length->L (i+k)=L' (i+k))->zX L i as_ t=zX L' i as_ t
 | [],_,_,_=>rfl
 |a::as_,i,t,h=>by
  simp only[zX];have h0:=h 0 YJ;simp only[Xg]at h0
  rw[h0];exact Uz as_ (i+1) _ λk hk=>by rw[show i+1+k=i+(k+1)by omega];exact h (k+1) Y2
theorem Uy{L L':Nat->Bool}:∀(as_:List RA) (i:Nat) (m:Mem),(∀k,k<as_.length->L (i+k)=L' (i+k))->stM L i as_ m=stM L' i as_ m
 | [],_,_,_=>rfl
 |a::as_,i,m,h=>by
  simp only[stM];have h0:=h 0 YJ;simp only[Xg]at h0
  rw[h0];exact Uy as_ (i+1) _ λk hk=>by rw[show i+1+k=i+(k+1)by omega];exact h (k+1) Y2
theorem ZaC{L:Nat->Bool}{a0:RA}:∀(as_:List RA) (i k0:Nat) (t:List PV),as_[k0]?=ZA a0->L (i+k0)=ZD->(∀k a,as_[k]?=ZA a->k0<k->L (i+k)=ZC->a0.d=ZB\/a0.d≠a.d)->zX (ins L (i+k0)) i as_ t=jk (zX L i as_ t) a0.d a0.p
 | [],_,_,_,h,_,_=>by simp at h
 |a::as_,i,k0,t,h,hL,hd=>by
  simp only[zX]
  cases k0 with
  |zero=>
   obtain rfl:a=a0:=by simpa using h
   simp only[Xg]at hL⊢
   have ei:ins L i i=true:=by simp[ins]
   simp only[ei,if_true,hL,WU,if_false];have e:zX (ins L i) (i+1) as_ (jk t a.d a.p)=zX L (i+1) as_ (jk t a.d a.p):=Uz as_ (i+1) _ λk hk=>by simp only[ins];rw[if_neg YG]
   rw[e];exact JP as_ (i+1) t λk b hk hb=>hd (k+1) b Y2 YG YQ
  |succ k0=>
   have e1:ins L (i+(k0+1)) i=L i:=by simp only[ins];rw[if_neg YG]
   rw[e1,show i+(k0+1)=i+1+k0 by omega]
   exact ZaC as_ (i+1) k0 _ Zl (by rwa[show i+(k0+1)=i+1+k0 by omega]at hL) λk b hk bO hb=>hd (k+1) b Y2 YG YQ
theorem ZaB{L:Nat->Bool}{a0:RA}:∀(as_:List RA) (i k0:Nat) (m:Mem),as_[k0]?=ZA a0->L (i+k0)=ZD->(∀k a,as_[k]?=ZA a->k0<k->L (i+k)=ZC->∀q∈a0.u,∀r∈a.u,q.1≠r.1)->stM (ins L (i+k0)) i as_ m=app a0.u (stM L i as_ m)
 | [],_,_,_,h,_,_=>by simp at h
 |a::as_,i,k0,m,h,hL,hd=>by
  simp only[stM]
  cases k0 with
  |zero=>
   obtain rfl:a=a0:=by simpa using h
   simp only[Xg]at hL⊢
   have ei:ins L i i=true:=by simp[ins]
   simp only[ei,if_true,hL,WU,if_false];have e:stM (ins L i) (i+1) as_ (app a.u m)=stM L (i+1) as_ (app a.u m):=Uy as_ (i+1) _ λk hk=>by simp only[ins];rw[if_neg YG]
   rw[e];exact JN as_ (i+1) m λk b hk hb=>hd (k+1) b Y2 YG YQ
  |succ k0=>
   have e1:ins L (i+(k0+1)) i=L i:=by simp only[ins];rw[if_neg YG]
   rw[e1,show i+(k0+1)=i+1+k0 by omega]
   exact ZaB as_ (i+1) k0 _ Zl (by rwa[show i+(k0+1)=i+1+k0 by omega]at hL) λk b hk bO hb=>hd (k+1) b Y2 YG YQ
/-! The check: RT is not ordered is apart. -/
structure LE where
 rd:List Nat
 wr:List Nat
 ts:List Nat
 d:Option Nat
instance :Inhabited LE:=⟨⟨[],[],[],ZB⟩⟩
def Zjt(ops:Array Oper)(o:Oper):List Nat:=match o.guard with
 |none=>[]
 |some (j,_)=>((ops[j]?).bind (·.dst)).toList
def ZgE:Operand->List Nat
 |.tmp i=>[i]
 |_=>[]
def FD(ops:Array Oper)(o:Oper):List Nat:=(o.op.operands.toList.flatMap ZgE)++Zjt ops o
def Tn(ops:Array Oper)(o:Oper)(t:List PV)(wd ν:Nat):LE:=⟨opR o.op t,opW o.op t wd ν,FD ops o,o.dst⟩
def le0(ops:Array Oper)(o:Oper):LE:=⟨[],[],FD ops o,o.dst⟩
def tD(a b:List Nat):Bool:=a.all λx=>!b.contains x
theorem vA{a b:List Nat}(h:tD a b=ZC){x y:Nat}(hx:x∈a)(hy:y∈b):x≠y:=by
 rintro rfl;have:=VS.1 h x hx;simp at this
 exact this hy
def Eb(a b:LE):Bool:=tD a.wr b.rd&&tD a.wr b.wr&&tD b.wr a.rd&&tD a.d.toList b.ts&&tD b.d.toList a.ts&&tD a.d.toList b.d.toList
def Zfo(acc:List Nat)(o:Oper):Nat:=o.after.toList.foldr (λe s=>if Region.binds .any e then s |||2 ^ e.on |||acc.getD e.on 0 else s) 0
def Vv:List Oper->List Nat->List Nat
 | [],acc=>acc
 |o::rest,acc=>Vv rest (acc++[Zfo acc o])
def Sw(ops:List Oper)(g:List LE):Bool:=
 let ms:=Vv ops []
 (Wq ops.length).all λj=>(((ops[j]?).map (·.after.all λe=>!Region.binds .any e ||ZE (e.on<j))).getD ZD)&&(Wq j).all λi=>(ms.getD j 0).testBit i ||Eb (g.getD i default) (g.getD j default)
end Go.Proofs.YtbalgkakkoocjaaGreat
