/- A part of the proof of the statement in the last file of this claim: texts on the language of the program and on its functions. No condition. -/
import Derived.Test.YtbalgkakkoocjaaGreatCFnTwice1
import Derived.Laws.AppendOwnNone
import Derived.Laws.BytesArg
set_option linter.unusedVariables false
set_option linter.unusedSimpArgs false
set_option linter.unusedSectionVars false
open Nat renaming add_comm→Yn,zero_add→Wb,div_lt_iff_lt_mul→XW,add_mul→W6,add_assoc→Xu,mul_le_mul_right→Wu,succ_mul→WX,zero_le→WV,le_refl→V3,lt_or_ge→WB,min_eq_left→X4,add_zero→Xn
open List renaming length_take→V8,length_drop→WK,getElem?_take→WN,getElem?_drop→WE,length_eq_zero_iff→W4,getElem?_eq_getElem→VT,getElem?_of_mem→Xm,getElem?_eq_some_iff→VU,getElem?_take_of_lt→WR,range→WO,getElem?_map→Wj,mem_map→WS,getElem?_append_left→Wd,getElem?_append_right→We,mem_of_getElem?→VW,nil_append→WM,append_nil→Xc,map_eq_cons_iff→XF,all_eq_true→V5,getElem?_cons_zero→Xs,replicate→WA,mem_cons_of_mem→Wi,getElem?_set_ne→Wt,mem_cons_self→Wp,getElem?_set_self→Wl,length_set→WL,getElem?_replicate→XO,length_map→Wg,getD→W0,pairwise_iff_getElem→WG,getElem?_eq_none→Wy,range'→Yp,foldl_cons→WI,foldl_nil→WJ,mem_flatMap→W9,flatMap_cons→XL,mem_append_right→XB,map_congr_left→WZ,mem_append→WC,mem_map_of_mem→X8,mem_cons→V4,length_nil→VY,not_mem_nil→V7
open _root_.Array renaming length_toList→Wk,getElem?_toList→Wh,getElem?_eq_some_iff→V6,getElem?_map→X6,getElem?_eq_getElem→V9,getD→Xw,getD_eq_getD_getElem?→WQ,toList_append→X1
open Option renaming map_some→Wr,map_eq_some_iff→Ww,bind_some→VS
open Option.some renaming injEq→V1
open Classical renaming axiomOfChoice→XA,choose→X7,choose_spec→Xt
open Bool renaming false_eq_true→WU
namespace Go.Proofs.YtbalgkakkoocjaaGreat
set_option maxRecDepth 10000
open Go.RowKit
variable {B:qa}{K:PV→Prop}{es:List (List PV)}{i:TypeInfo}{k l ν:Nat}{mb:MB}{p:PV}{x y:Value}{α:Type}{ω:Nat→Key→Prop}{a:Array α}
section
variable {w:World} {O:Nat→Prop} {E:Env} {w0:World} {m:Mem} {P:Program}
def px(m:Mem):PV→Option (List (List PV))
 |.sl es=>some es
 |.v (.slice none 0 _)=>some []
 |.ms l=>match m[l]? with
  |some (some mb)=>some mb.es
  |_=>none
 |.ss l a b=>match m[l]? with
  |some (some mb)=>some ((mb.es.drop a).take (b-a))
  |_=>none
 |_=>none
theorem KQ{i j k:Nat}(h:j<k):(i*k+j) / k=i∧(i*k+j) % k=j:=by
 have hk:0<k:=by omega
 refine⟨?_,?_⟩
 ·rw[Yn,Nat.add_mul_div_right _ _ hk,Nat.div_eq_of_lt h,Wb]
 ·rw[Yn,Nat.add_mul_mod_self_right,Nat.mod_eq_of_lt h]
theorem Jy(hb:gb w E mb B)(hz:B.z=false){a b:Nat}(Ba:a≤b)(PO:b≤B.n)(xx:es=(mb.es.drop a).take (b-a))(xz:0<k)(hlen:∀(i:Nat) (cs:List PV),es[i]?=some cs→cs.length=k):
 ∃news:List Value,news.length=es.length*k∧(∀j u,news[j]?=some u→w.cell? ((⟨B.b,a*B.k,none⟩:Addr).add j)=some u)∧(∀u∈news,u.oneCell'=true)∧
  ∀(i:Nat) (cs:List PV) (j:Nat) (p:PV),es[i]?=some cs→cs[j]?=some p→∃u,news[i*k+j]?=some u∧dL w E p u:=by
 obtain⟨cells,m1,m2,m3⟩:=hb.mem hz
 have hn:=hb.n
 have hel:es.length=b-a:=by rw[xx,V8,WK];omega
 have get:∀{i:Nat} {cs:List PV},es[i]?=some cs→mb.es[a+i]?=some cs:=by
  intro i cs hi
  rw[xx,WN]at hi
  split at hi
  ·rwa[WE]at hi
  ·cases hi
 rcases Nat.eq_zero_or_pos es.length with h0|h0
 ·have e0:es=[]:=W4.1 h0
  subst e0
  exact⟨[],by simp,by simp,by simp,by simp⟩
 have e0:B.k=k:=(hb.es _ _ (get (VT h0))).symm.trans (hlen 0 _ (VT h0))
 rw[e0]at m2 m3
 have bF:∀t,t<es.length*k→∃x,cells[a*k+t]?=some x∧x.oneCell'=true:=by
  intro t ht
  have hq:t / k<es.length:=by rw[XW xz];exact ht
  have HD:=Nat.mod_lt t xz
  have e1:=VT hq
  have e2:(es[t / k])[t % k]?=some ((es[t / k])[t % k]'(by rw[hlen _ _ e1];exact HD)):=VT _
  obtain⟨x,x1,x2,_⟩:=m3 _ _ _ _ (get e1) e2
  have e3:t / k*k+t % k=t:=by rw[Nat.mul_comm];exact Nat.div_add_mod t k
  rw[W6,Xu,e3]at x1
  exact⟨x,x1,x2⟩
 have ZeW:a*k+es.length*k≤cells.size:=by
  rw[m2,←W6]
  exact Wu _ (by have:=hb.nc;omega)
 refine⟨(cells.toList.drop (a*k)).take (es.length*k),by simp only[V8,WK,Wk];omega,fun j v hj=>?_,fun v hv=>?_,fun i cs j p hi hj=>?_⟩
 ·have ea:(⟨B.b,a*B.k,none⟩:Addr).add j=⟨B.b,a*k+j,none⟩:=by rw[e0];unfold Addr.add;split<;>simp_all
  rw[ea,cell_of_row w B.b _ cells B.T (0,0) m1]
  rw[WN]at hj
  split at hj
  ·rw[WE]at hj;simpa using hj
  ·cases hj
 ·obtain⟨t,ht⟩:=Xm hv
  rw[WN]at ht
  split at ht
  ·rename_i PW
   obtain⟨x,x1,x2⟩:=bF t PW
   rw[WE,Wh,x1]at ht
   cases ht;exact x2
  ·cases ht
 ·have xy:j<k:=by rw[←hlen i cs hi];exact(VU.1 hj).1
  have x5:i<es.length:=(VU.1 hi).1
  have bF:i*k+j<es.length*k:=by
   have:(i+1)*k≤es.length*k:=Wu _ x5
   rw[WX]at this
   omega
  obtain⟨x,x1,_,x3⟩:=m3 _ cs j p (get hi) hj
  refine⟨x,?_,x3⟩
  rw[WR bF,WE,Wh,←x1,W6,Xu]
theorem VH(hk:Ok w0 O E w m)(hy:dL w E p y)(hs:px m p=some es)(xz:0<k)(hlen:∀(i:Nat) (cs:List PV),es[i]?=some cs→cs.length=k):
 (∃c,y=.slice none 0 c∧es=[])∨∃(a:Addr) (c:Nat) (news:List Value),y=.slice (some a) es.length c∧news.length=es.length*k∧(∀j u,news[j]?=some u→w.cell? (a.add j)=some u)∧(∀u∈news,u.oneCell'=true)∧
  ∀(i:Nat) (cs:List PV) (j:Nat) (p:PV),es[i]?=some cs→cs[j]?=some p→∃u,news[i*k+j]?=some u∧dL w E p u:=by
 unfold px at hs
 split at hs
 ·rename_i tA
  obtain rfl:tA=es:=by simpa using hs
  cases hy.vR with
  |nil A c=>
   cases A with
   |none=>exact .inl ⟨c,rfl,rfl⟩
   |some a=>exact .inr ⟨a,c,[],rfl,by simp,by simp,by simp,by simp⟩
  |sl _ b off k' c u hS hkp hn hm xx hc h1 hr=>
   refine .inr ⟨⟨b,off,none⟩,c,(WO (tA.length*k)).map fun t=>u (t / k) (t % k),rfl,by simp,fun j v hj=>?_,fun v hv=>?_,fun i cs j p hi hj=>?_⟩
   ·have xy:j<tA.length*k:=by have:=(VU.1 hj).1;simpa using this
    rw[Wj,List.getElem?_range xy]at hj
    simp only[Wr,V1]at hj
    have hq:j / k<tA.length:=by rw[XW xz];exact xy
    have HD:=Nat.mod_lt j xz
    have e1:=VT hq
    have e0:k'=k:=(xx _ _ e1).symm.trans (hlen _ _ e1)
    have e2:(tA[j / k])[j % k]?=some ((tA[j / k])[j % k]'(by rw[hlen _ _ e1];exact HD)):=VT _
    have:=hc _ _ _ _ e1 e2
    rw[e0]at this
    have e3:j / k*k+j % k=j:=by rw[Nat.mul_comm];exact Nat.div_add_mod j k
    have ea:(⟨b,off,none⟩:Addr).add j=⟨b,off+j,none⟩:=by unfold Addr.add;split<;>simp_all
    rw[ea,←hj,←this]
    congr 2
    omega
   ·obtain⟨t,ht,rfl⟩:=WS.1 hv
    have xy:t<tA.length*k:=by simpa using ht
    have hq:t / k<tA.length:=by rw[XW xz];exact xy
    have HD:=Nat.mod_lt t xz
    have e1:=VT hq
    have e2:(tA[t / k])[t % k]?=some ((tA[t / k])[t % k]'(by rw[hlen _ _ e1];exact HD)):=VT _
    exact h1 _ _ _ _ e1 e2
   ·have xy:j<k:=by rw[←hlen i cs hi];exact(VU.1 hj).1
    have x5:i<tA.length:=(VU.1 hi).1
    obtain⟨d1,d2⟩:=KQ (i:=i) xy
    have bF:i*k+j<tA.length*k:=by
     have:(i+1)*k≤tA.length*k:=Wu _ x5
     rw[WX]at this
     omega
    refine⟨u i j,?_,.c (hr i cs j p hi hj)⟩
    rw[Wj,List.getElem?_range bF]
    simp[d1,d2]
 ·obtain rfl:es=[]:=by simpa[eq_comm]using hs
  obtain⟨rfl,_⟩:=hy.iG
  exact .inl ⟨_,rfl,rfl⟩
 ·split at hs
  ·rename_i l mb hm
   obtain rfl:mb.es=es:=by simpa using hs
   obtain⟨B,hB,hb,rfl⟩:=hy.sI hk hm
   cases hz:B.z with
   |true=>exact .inl ⟨0,by simp[qa.sv,hz],hb.nil hz⟩
   |false=>
    obtain⟨news,n1,n2,n3,n4⟩:=Jy hb hz (a:=0) (b:=B.n) (WV _) (V3 _) (es:=mb.es) (by simp[hb.n]) xz hlen
    exact .inr ⟨_,B.c,news,by simp[qa.sv,hz,hb.n],n1,n2,n3,n4⟩
  ·cases hs
 ·split at hs
  ·rename_i l a b _ mb hm
   obtain rfl:(mb.es.drop a).take (b-a)=es:=by simpa using hs
   obtain⟨B,hB,hb,A,c,rfl,Ba,PO,hA⟩:=hy.Al hk hm
   have hel:((mb.es.drop a).take (b-a)).length=b-a:=by rw[V8,WK,←hb.n];omega
   rcases WB a b with bF|yz
   ·obtain⟨hz,rfl,u4,DT⟩:=hA bF
    obtain⟨news,n1,n2,n3,n4⟩:=Jy hb hz Ba PO rfl xz hlen
    exact .inr ⟨_,c,news,by rw[hel],n1,n2,n3,n4⟩
   ·have e0:(mb.es.drop a).take (b-a)=[]:=W4.1 (by rw[hel];omega)
    have PN:b-a=0:=by omega
    cases A with
    |none=>exact .inl ⟨c,by rw[PN],e0⟩
    |some ad=>
     rw[e0]
     exact .inr ⟨ad,c,[],by rw[PN];rfl,by simp,by simp,by simp,by simp⟩
  ·cases hs
 ·cases hs
def fZ(P:Program)(ν:Nat)(m:Mem)(T:TypeId)(s x:PV)(K:PV→Mem→Prop):Prop:=
 match P.underlying T with
 |some (.slice e)=>match pz P e,px m x with
  |some zc,some es=>zc.length=P.cellsOf e∧0<P.cellsOf e∧(∀cs∈es,cs.length=P.cellsOf e)∧match s with
   |.ms l=>live m l fun mb=>mb.T.t=e∧mb.k=P.cellsOf e∧mb.es.length+es.length≤1099511627776∧(mb.es.length+es.length)*P.bytesOf e≤140737488355328∧
    K (.ms ν) (nV (m.set l none) ν ⟨mb.T.P0 es,P.cellsOf e,mb.es++es⟩)
   |.ss l a b=>a=0∧live m l fun mb=>mb.T.t=e∧mb.k=P.cellsOf e∧(b≤mb.es.length∧¬mb.es=[])∧b+es.length≤1099511627776∧(b+es.length)*P.bytesOf e≤140737488355328∧
    K (.ms ν) (nV (m.set l none) ν ⟨mb.T.P0 es,P.cellsOf e,mb.es.take b++es⟩)
   |.v (.slice none 0 0)=>es.length≤1099511627776∧es.length*P.bytesOf e≤140737488355328∧K (.ms ν) (nV m ν ⟨e,P.cellsOf e,es⟩)
   |_=>False
  |_,_=>False
 |_=>False
theorem run_append_nil{t ty e:Nat}(ht:P.underlying t=some (.slice e))(hi:P.info? e=some i)(c:Nat):
 (Builtin.append_ #[t,t] ty #[.slice none 0 0,.slice none 0 c]).run P w=.ok (.slice none 0 0) w:=by
 simp[Builtin.append_,run_underlying ht,sizeOf,typeInfo,hi,Builtin.lenOf,Builtin.firstCells]
theorem Bf{t ty e:Nat}(ht:P.underlying t=some (.slice e))(hi:P.info? e=some i)(g:Addr)(n cap c:Nat)(wU:n≤cap):
 (Builtin.append_ #[t,t] ty #[.slice (some g) n cap,.slice none 0 c]).run P w=.ok (.slice (some g) n cap) w:=by
 simp[Builtin.append_,run_underlying ht,sizeOf,typeInfo,hi,Builtin.lenOf,Builtin.firstCells,wU,storeCells]
theorem Aw{es tA:List (List PV)}(xz:0<k){E':Env}{w':World}(hx:Ext w w' E E'){xL news:List Value}(ho:xL.length=es.length*k)(hn:news.length=tA.length*k)
 (h1:∀(i:Nat) (cs:List PV),es[i]?=some cs→cs.length=k) (h2:∀(i:Nat) (cs:List PV),tA[i]?=some cs→cs.length=k)
 (r1:∀(i:Nat) (cs:List PV) (j:Nat) (p:PV),es[i]?=some cs→cs[j]?=some p→∃u,xL[i*k+j]?=some u∧u.oneCell'=true∧dL w E p u)
 (vu:∀u∈news,u.oneCell'=true)
 (r2:∀(i:Nat) (cs:List PV) (j:Nat) (p:PV),tA[i]?=some cs→cs[j]?=some p→∃u,news[i*k+j]?=some u∧dL w E p u)
 {cur:Array Value} (ZeQ:cur.toList.take ((es.length+tA.length)*k)=xL++news):
 (∀(i:Nat) (cs:List PV),(es++tA)[i]?=some cs→cs.length=k)∧∀(i:Nat) (cs:List PV) (j:Nat) (p:PV),(es++tA)[i]?=some cs→cs[j]?=some p→∃x,cur[i*k+j]?=some x∧x.oneCell'=true∧dL w' E' p x:=by
 have hlen:∀(i:Nat) (cs:List PV),(es++tA)[i]?=some cs→cs.length=k:=by
  intro i cs hi
  rcases WB i es.length with h|h
  ·rw[Wd h]at hi;exact h1 i cs hi
  ·rw[We h]at hi;exact h2 _ cs hi
 refine⟨hlen,fun i cs j p hi hj=>?_⟩
 have xy:j<k:=by rw[←hlen i cs hi];exact(VU.1 hj).1
 have x5:i<es.length+tA.length:=by have:=(VU.1 hi).1;simpa using this
 have uC:i*k+j<(es.length+tA.length)*k:=by
  have:(i+1)*k≤(es.length+tA.length)*k:=Wu _ x5
  rw[WX]at this
  omega
 have yx:cur[i*k+j]?=(xL++news)[i*k+j]?:=by rw[←ZeQ,WR uC,Wh]
 rw[yx]
 rcases WB i es.length with h|h
 ·rw[Wd h]at hi
  obtain⟨u,u1,u2,u3⟩:=r1 i cs j p hi hj
  have:i*k+j<xL.length:=(VU.1 u1).1
  exact⟨u,by rw[Wd this];exact u1,u2,u3.ext hx⟩
 ·rw[We h]at hi
  obtain⟨u,u1,u3⟩:=r2 _ cs j p hi hj
  have yz:xL.length≤i*k+j:=by
   rw[ho]
   have:es.length*k≤i*k:=Wu _ h
   omega
  refine⟨u,?_,vu u (VW u1),u3.ext hx⟩
  rw[We yz,←u1,ho]
  congr 1
  rw[Nat.sub_mul]
  have:es.length*k≤i*k:=Wu _ h
  omega
theorem yg{T ty e:TypeId}(hu:P.underlying T=some (.slice e))(hz:(pz P e).isSome=true)(uZ:∀zc,pz P e=some zc→zc.length=P.cellsOf e)(gz:0<P.cellsOf e)(hlen:∀cs∈es,cs.length=P.cellsOf e)
 (Ux:(∃c,y=.slice none 0 c∧es=[])∨∃(a:Addr) (c:Nat) (news:List Value),y=.slice (some a) es.length c∧news.length=es.length*P.cellsOf e∧(∀j u,news[j]?=some u→w.cell? (a.add j)=some u)∧(∀u∈news,u.oneCell'=true)∧
  ∀(i:Nat) (cs:List PV) (j:Nat) (p:PV),es[i]?=some cs→cs[j]?=some p→∃u,news[i*P.cellsOf e+j]?=some u∧dL w E p u)
 (zG:es.length≤1099511627776) (mg:es.length*P.bytesOf e≤140737488355328):
 ∃(B:qa) (w':World),(Builtin.append_ #[T,T] ty #[.slice none 0 0,y]).run P w=.ok B.sv w'∧w'.os=w.os∧w'.tape=w.tape∧w'.output=w.output∧w.heap.size≤w'.heap.size∧(∀b,b<w.heap.size→w'.heap[b]?=w.heap[b]?)∧
  (B.z=false→w.heap.size≤B.b∧B.b<w'.heap.size)∧∀E',Ext w w' E E'→gb w' E' ⟨e,P.cellsOf e,es⟩ B:=by
 obtain⟨zc,hz⟩:=Option.isSome_iff_exists.1 hz
 have uZ:=uZ zc hz
 obtain⟨i,z,hi,tT,hc⟩:=Ac (w:=w) (E:=E) hz
 have K0:i.size=P.cellsOf e:=by simp[Program.cellsOf,hi]
 have hib:i.bytes=P.bytesOf e:=by simp[Program.bytesOf,hi]
 have hzs:z.cells.size=P.cellsOf e:=by rw[hc.1,uZ]
 have CD:∀(i:Nat) (cs:List PV),es[i]?=some cs→cs.length=P.cellsOf e:=fun i cs h=>hlen cs (VW h)
 have Zfq:es=[]→∀E',gb w E' ⟨e,P.cellsOf e,es⟩ ⟨0,0,0,P.cellsOf e,e,true⟩:=fun h0 E'=>
  ⟨rfl,by rw[h0];rfl,rfl,gz,V3 _,WV _,by rw[h0];simp,fun _=>h0,fun h=>(by cases h),fun _ hT=>by cases hT⟩
 rcases Ux with⟨c,rfl,h0⟩ |⟨a,c,news,rfl,xb,wU,vu,hnr⟩
 ·exact⟨⟨0,0,0,P.cellsOf e,e,true⟩,w,run_append_nil hu hi c,rfl,rfl,rfl,V3 _,fun _ _=>rfl,fun h=>(by cases h),fun E' _=>Zfq h0 E'⟩
 ·obtain⟨v',w',jh,Rt,hg,Rq,xw⟩:=run_append_own_at (P:=P) w 0 T ty e i z (P.cellsOf e) (P.bytesOf e) hu hi tT K0 hib hzs gz _ 0 [] (World.ownsRow_nil _ _ _ _) a es.length c news xb wU vu (by unfold maxLen;omega) (by simpa using mg) (WV _)
  have hold:∀b,b<w.heap.size→w'.heap[b]?=w.heap[b]?:=fun b uY=>hg.block b uY (by simp[Value.ownBlock])
  rcases Rt.2 with⟨rfl,h0⟩ |⟨g,cap,cur,rfl,hgB,Uq,PR,hgc,hgs,zm⟩
  ·have h0':es=[]:=W4.1 (by omega)
   refine⟨⟨0,0,0,P.cellsOf e,e,true⟩,w',jh,hg.os,hg.tape,hg.output,hg.size,hold,fun h=>(by cases h),fun E' _=>?_⟩
   exact⟨rfl,by rw[h0'];rfl,rfl,gz,V3 _,WV _,by rw[h0'];simp,fun _=>h0',fun h=>(by cases h),fun _ hT=>by cases hT⟩
  ·simp only[Value.ownBlock,reduceCtorEq,V1,false_or]at xw
   have sE:g<w'.heap.size:=(V6.1 Uq).1
   simp only[Wb,WM]at zm PR jh
   refine⟨⟨g,cap,es.length,P.cellsOf e,e,false⟩,w',jh,hg.os,hg.tape,hg.output,hg.size,hold,fun _=>⟨by simp only;omega,sE⟩,fun E' rQ=>?_⟩
   obtain⟨g1,g2⟩:=Aw (es:=[]) (tA:=es) (k:=P.cellsOf e) gz rQ (xL:=[]) (news:=news) (by simp) xb (by simp) CD (by simp) vu hnr (cur:=cur) (by simpa using zm)
   simp only[WM]at g1 g2
   exact⟨rfl,rfl,rfl,gz,PR,hgc,g1,fun h=>(by cases h),fun _=>⟨cur,Uq,hgs,g2⟩,fun _ hT=>by cases hT⟩
theorem BU(hk:Ok w0 O E w m)(vz:¬E.used ν){T ty e:TypeId}{zc:List PV}(hu:P.underlying T=some (.slice e))(hz:pz P e=some zc)(uZ:zc.length=P.cellsOf e)(gz:0<P.cellsOf e)
 (Ry:∀zc',pz P e=some zc'→zc'.length=P.cellsOf e) (hlen:∀cs∈es,cs.length=P.cellsOf e) (CD:∀(i:Nat) (cs:List PV),es[i]?=some cs→cs.length=P.cellsOf e)
 (Ux:(∃c,y=.slice none 0 c∧es=[])∨∃(a:Addr) (c:Nat) (news:List Value),y=.slice (some a) es.length c∧news.length=es.length*P.cellsOf e∧(∀j u,news[j]?=some u→w.cell? (a.add j)=some u)∧(∀u∈news,u.oneCell'=true)∧
  ∀(i:Nat) (cs:List PV) (j:Nat) (p:PV),es[i]?=some cs→cs[j]?=some p→∃u,news[i*P.cellsOf e+j]?=some u∧dL w E p u)
 {B B0:qa} (hB:E.β l=some B) (e1:B0.b=B.b) (e2:B0.z=B.z) (hb:gb w E mb B0) (hmT:mb.T.t=e) (hmk:mb.k=P.cellsOf e) (zG:mb.es.length+es.length≤1099511627776) (mg:(mb.es.length+es.length)*P.bytesOf e≤140737488355328):
 u9 P w0 O E w ν (Builtin.append_ #[T,T] ty #[B0.sv,y]) (.ms ν) (nV (m.set l none) ν ⟨mb.T.P0 es,P.cellsOf e,mb.es++es⟩):=by
 have Ra:B0.k=P.cellsOf e:=hb.k.trans hmk
 have hBT:B0.T=e:=hb.T.trans hmT
 cases hzB:B0.z with
 |true=>
  have h0:=hb.nil hzB
  obtain⟨B',w',jh,g1,g2,g3,g4,g5,g6,g7⟩:=yg (w:=w) (E:=E) (ty:=ty) hu (by rw[hz];rfl) Ry gz hlen Ux (by omega) (by
   rw[h0]at mg;simpa using mg)
  have Rp:=hk.move vz hB ⟨mb.T.P0 es,P.cellsOf e,mb.es++es⟩ B' g1 g2 g3 g4 (fun b uY _=>g5 b uY) (fun tT=>.inr (g6 tT).1) (fun tT=>(g6 tT).2) fun rQ=>by
   rw[h0,WM];exact(g7 _ rQ).ZbK ((TK.Ka _ _).trans hmT) fun T1 h1=>(Hn h1).2
  refine⟨_,w',_,by rw[show B0.sv=.slice none 0 0 by simp[qa.sv,hzB]];exact jh,Rp.1,Rp.2,.ms _ _ (.inl rfl) (by unfold qa.sv;split<;>rfl) fun B1 u0=>?_,fun l hl=>hl.symm⟩
  have:B1=B':=by simpa[Env.move,eq_comm]using u0
  rw[this]
 |false=>
  obtain⟨i,z,hi,tT,hc⟩:=Ac (w:=w) (E:=E) hz
  have K0:i.size=P.cellsOf e:=by simp[Program.cellsOf,hi]
  have hib:i.bytes=P.bytesOf e:=by simp[Program.bytesOf,hi]
  have hzs:z.cells.size=P.cellsOf e:=by rw[hc.1,uZ]
  have UB:B.z=false:=e2.symm.trans hzB
  obtain⟨o1,o2,o3⟩:=hk.own l B hB UB
  obtain⟨cells,m1,m2,m3⟩:=hb.mem hzB
  rw[Ra]at m2 m3
  have DX:B0.sv=.slice (some ⟨B0.b,0,none⟩) B0.n B0.c:=by simp[qa.sv,hzB]
  rw[DX]
  rcases Ux with⟨c,rfl,rfl⟩ |⟨a,c,news,rfl,xb,wU,vu,hnr⟩
  ·have Rp:=hk.move (w':=w) vz hB ⟨mb.T.P0 [],P.cellsOf e,mb.es++[]⟩ B0 rfl rfl rfl (V3 _) (fun _ _ _=>rfl) (fun _=>.inl ⟨UB,e1⟩) (fun _=>by rw[e1];exact o2) fun rQ=>⟨Ra,by rw[hb.n];simp,hBT.trans ((TK.Ka _ _).trans hmT).symm,hb.pos,hb.nc,hb.cm,by
    intro i cs hi;simp only[Xc]at hi;exact hb.es i cs hi,fun h=>(by rw[hzB]at h;cases h),fun _=>⟨cells,m1,by rw[Ra];exact m2,by
    intro i cs j p hi hj
    simp only[Xc]at hi
    obtain⟨x,x1,x2,x3⟩:=m3 i cs j p hi hj
    rw[Ra]
    exact⟨x,x1,x2,x3.ext rQ⟩⟩,fun T1 hT1 Ks i cs j es x hi hj iw hc=>by
    simp only[Xc]at hi
    rw[TK.Ka]
    exact(hb.key T1 (Hn hT1).1 Ks i cs j es x hi hj iw hc).ext rQ⟩
   refine⟨_,w,_,Bf (w:=w) hu hi _ _ _ c hb.nc,Rp.1,Rp.2,.ms _ _ (.inl rfl) rfl fun B' kL=>?_,fun l hl=>hl.symm⟩
   have:B'=B0:=by simpa[Env.move,eq_comm]using kL
   subst this;exact DX.symm
  ·have Zgt:B0.n*P.cellsOf e≤B0.c*P.cellsOf e:=Wu _ hb.nc
   have pZ:w.ownsRow 0 e (P.cellsOf e) (.slice (some ⟨B0.b,0,none⟩) B0.n B0.c) B0.n (cells.toList.take (B0.n*P.cellsOf e)):=
    ⟨by rw[V8,Wk];omega,.inr ⟨B0.b,B0.c,cells,rfl,WV _,by rw[hBT]at m1;exact m1,hb.nc,hb.cm,m2,rfl⟩⟩
   obtain⟨v',w',jh,Rt,hg,Rq,xw⟩:=run_append_own_at (P:=P) w 0 T ty e i z (P.cellsOf e) (P.bytesOf e) hu hi tT K0 hib hzs gz _ B0.n _ pZ a es.length c news xb wU vu (by rw[hb.n];unfold maxLen;omega) (by rw[hb.n];exact mg) (WV _)
   rcases Rt.2 with⟨rfl,_⟩ |⟨g,cap,cur,rfl,hgB,Uq,PR,hgc,hgs,zm⟩
   ·have:=Rq.1 rfl;simp at this
   ·simp only[Value.ownBlock,V1]at xw hg
    have sE:g<w'.heap.size:=(V6.1 Uq).1
    have Rp:=hk.move (w':=w') vz hB ⟨mb.T.P0 es,P.cellsOf e,mb.es++es⟩ ⟨g,cap,B0.n+es.length,P.cellsOf e,e,false⟩ hg.os hg.tape hg.output hg.size
     (fun b uY zk=>hg.block b uY (by simpa[e1]using zk UB)) (fun _=>by rcases xw with h|h;exact .inl ⟨UB,h.trans e1⟩;exact .inr (by simp only;omega)) (fun _=>sE) fun rQ=>by
      obtain⟨g1,g2⟩:=Aw (es:=mb.es) (tA:=es) (k:=P.cellsOf e) gz rQ (xL:=cells.toList.take (B0.n*P.cellsOf e)) (news:=news) (by rw[V8,Wk,←hb.n];omega) xb
       (fun i cs hi=>(hb.es i cs hi).trans Ra) CD (fun i cs j p hi hj=>by
        obtain⟨x,x1,x2,x3⟩:=m3 i cs j p hi hj
        have xy:j<P.cellsOf e:=by rw[←(hb.es i cs hi).trans Ra];exact(VU.1 hj).1
        have x5:i<B0.n:=by rw[hb.n];exact(VU.1 hi).1
        have bF:i*P.cellsOf e+j<B0.n*P.cellsOf e:=by
         have:(i+1)*P.cellsOf e≤B0.n*P.cellsOf e:=Wu _ x5
         rw[WX]at this
         omega
        exact⟨x,by rw[WR bF,Wh];exact x1,x2,x3⟩) vu hnr (cur:=cur) (by rw[←hb.n];exact zm)
      exact⟨rfl,by simp[hb.n],((TK.Ka _ _).trans hmT).symm,gz,PR,hgc,g1,fun h=>(by cases h),fun _=>⟨cur,Uq,hgs,g2⟩,fun T1 hT1 _ i cs j es1 x hi hj iw hc=>by
       obtain⟨Us,hns⟩:=Hn hT1
       rcases WB i mb.es.length with x5|x5
       ·simp only[Wd x5]at hi
        have xy:j<P.cellsOf e:=by rw[←(hb.es i cs hi).trans Ra];exact(VU.1 hj).1
        have bF:i*P.cellsOf e+j<B0.n*P.cellsOf e:=by
         have:(i+1)*P.cellsOf e≤B0.n*P.cellsOf e:=Wu _ (by rw[hb.n];exact x5)
         rw[WX]at this
         omega
        have Zbd:i*P.cellsOf e+j<(B0.n+es.length)*P.cellsOf e:=by rw[W6];omega
        rw[cell_of_row w' g _ cur e (0,0) Uq]at hc
        have zH:cells[i*P.cellsOf e+j]?=some x:=by
         have h5:cur.toList[i*P.cellsOf e+j]?=cells.toList[i*P.cellsOf e+j]?:=by
          rw[←WR Zbd,zm,Wd (by rw[V8,Wk];omega),WR bF]
         rw[Wh,Wh]at h5
         rw[←h5];exact hc
        rw[TK.Ka]
        exact(hb.key T1 Us hzB i cs j es1 x hi hj iw (by rw[cell_of_row w B0.b _ cells B0.T (0,0) m1,Ra];exact zH)).ext rQ
       ·simp only[We x5]at hi
        exact absurd (GF (hns cs (VW hi)) hj) iw⟩
    refine⟨_,w',_,jh,Rp.1,Rp.2,.ms _ _ (.inl rfl) rfl fun B' kL=>?_,fun l hl=>hl.symm⟩
    have e':B'=⟨g,cap,B0.n+es.length,P.cellsOf e,e,false⟩:=by simpa[Env.move,eq_comm]using kL
    subst e';rfl
theorem Ej(hk:Ok w0 O E w m)(vz:¬E.used ν){T ty:TypeId}{p q:PV}(hx:dL w E p x)(hy:dL w E q y){K:PV→Mem→Prop}(h:fZ P ν m T p q K):
 ∃p m',K p m'∧u9 P w0 O E w ν (Builtin.append_ #[T,T] ty #[x,y]) p m':=by
 unfold fZ at h
 split at h
 ·rename_i e hu
  split at h
  ·rename_i zc es hz xE
   obtain⟨uZ,gz,hlen,h⟩:=h
   have Ry:∀zc',pz P e=some zc'→zc'.length=P.cellsOf e:=fun zc' h'=>by rw[hz]at h';cases h';exact uZ
   have CD:∀(i:Nat) (cs:List PV),es[i]?=some cs→cs.length=P.cellsOf e:=fun i cs h=>hlen cs (VW h)
   have Ux:=VH hk hy xE gz CD
   split at h
   ·rename_i l
    obtain⟨mb,hm,hmT,hmk,zG,mg,hK⟩:=iy h
    obtain⟨B,hB,hb,rfl⟩:=hx.sI hk hm
    exact⟨_,_,hK,BU hk vz hu hz uZ gz Ry hlen CD Ux hB rfl rfl hb hmT hmk zG mg⟩
   ·rename_i l a b
    obtain⟨rfl,h⟩:=h
    obtain⟨mb,hm,hmT,hmk,uk,zG,mg,hK⟩:=iy h
    obtain⟨B,hB,hb,PO,hxv,A,c,hxs⟩:=hx.Nu hk hm
    have Hw:gb w E ⟨mb.T,mb.k,mb.es.take b⟩ ⟨B.b,B.c,b,B.k,B.T,B.z⟩:=hb.part PO
    have DX:x=(⟨B.b,B.c,b,B.k,B.T,B.z⟩:qa).sv∨B.z=true:=by
     cases hz0:B.z with
     |false=>exact .inl (by rw[hxv hz0];simp[qa.sv])
     |true=>exact .inr rfl
    rcases DX with rfl|hz0
    ·exact⟨_,_,hK,BU (mb:=⟨mb.T,mb.k,mb.es.take b⟩) (B0:=⟨B.b,B.c,b,B.k,B.T,B.z⟩) hk vz hu hz uZ gz Ry hlen CD Ux hB rfl rfl Hw hmT hmk (by rw[V8,X4 uk.1];exact zG) (by rw[V8,X4 uk.1];exact mg)⟩
    ·exact absurd (hb.nil hz0) uk.2
   ·obtain⟨zG,mg,hK⟩:=h
    obtain⟨rfl,_⟩:=hx.iG
    obtain⟨B',w',jh,g1,g2,g3,g4,g5,g6,g7⟩:=yg (w:=w) (E:=E) (ty:=ty) hu (by rw[hz];rfl) Ry gz hlen Ux zG mg
    have Rp:=hk.new vz ⟨e,P.cellsOf e,es⟩ B' g1 g2 g3 g4 g5 g6 (g7 _)
    refine⟨_,_,hK,_,w',_,jh,Rp.1,Rp.2,.ms _ _ (.inl rfl) (by unfold qa.sv;split<;>rfl) fun B1 u0=>?_,fun l hl=>hl.symm⟩
    have:B1=B':=by simpa[Env.add,eq_comm]using u0
    rw[this]
   ·exact h.elim
  ·exact h.elim
 ·exact h.elim
end
def qn:PV→Bool
 |.v _|.ud|.un|.sl _|.rp _=>true
 |_=>false
def qE:PV→Bool
 |.fn _ cs=>cs.all qn
 |p=>qn p
def HE:PV→Bool
 |.v _|.ud|.un|.ms _|.be ..=>true
 |_=>false
def E1(S:Nat→Prop)(β:Nat→Option qa)(n:Nat)(ω:Nat→Key→Prop:=fun _ _=>False):Env:={ S:=S,β:=β,used:=fun l=>l<n,ω:=ω}
def iZ(P:Program)(f:FuncId)(args:List PV)(m0:Mem)(r:PV)(m1:Mem):Prop:=
 ∀(S:Nat→Prop) (β:Nat→Option qa) (w:World) (vs:Array Value) (ω:Nat→Key→Prop),Ok w (nL β) (E1 S β m0.length ω) w m0→vs.size=args.length→(∀(i:Nat) (p:PV),args[i]?=some p→∃x,vs[i]?=some x∧dL w (E1 S β m0.length ω) p x)→
  Calls P f vs w fun e w'=>∃v E',e=.returned v∧Ok w (nL β) E' w' m1∧(∀b,S b→E'.S b)∧(∀b,E'.S b→S b∨w.heap.size≤b∨nL β b)∧((∀l B,l<m0.length→E'.β l=some B→β l=some B)∧∀b q,E'.ω b q→ω b q∨w.heap.size≤b∨nL β b)∧dL w' E' r v
abbrev CallOk(P:Program)(f:FuncId)(args:List PV)(r:PV)(m':Mem):Prop:=iZ P f args [] r m'
section
variable {w:World} {O:Nat→Prop} {E:Env} {w0:World} {m:Mem} {P:Program}
def Kx(P:Program)(E:Env)(w:World)(a:Act)(o:Oper)(p:PV):Prop:=
 ∃x,(execOp a.eval o).run P w=.ok (.value x) w∧dL w E p x
def tq:List (List PV)→Option (List Int)
 | []=>some []
 | [.v (.int .u8 n)]::rest=>(tq rest).map (n::·)
 |_=>none
theorem Ca:∀{es:List (List PV)} {ns:List Int},tq es=some ns→ns.length=es.length∧∀i,i<es.length→es[i]?=some [.v (.int .u8 (ns.getD i 0))]
 | [],ns,h=>by simp only[tq,V1]at h;subst h;simp
 |e::es,ns,h=>by
  unfold tq at h
  split at h
  ·cases(by assumption:(e::es)=[])
  ·rename_i n rest heq
   simp only[List.cons.injEq]at heq
   obtain⟨rfl,rfl⟩:=heq
   obtain⟨ms,hms,rfl⟩:=Ww.1 h
   obtain⟨h1,h2⟩:=Ca hms
   refine⟨by simp[h1],fun i hi=>?_⟩
   cases i with
   |zero=>rfl
   |succ i=>simpa using h2 i (by simpa using hi)
  ·cases h
def rK(P:Program)(m:Mem)(s d:TypeId)(x:PV)(K:PV→Prop):Prop:=
 match x with
 |.ms l=>match P.underlying s,P.underlying d with
  |some (.slice e),some .string=>P.underlying e=some (.int .u8)∧live m l fun mb=>mb.k=1∧match tq mb.es with
   |some ns=>K (.v (.string (strOfNums ns)))
   |none=>False
  |_,_=>False
 |x=>CZ P s d x K
theorem GO(hk:Ok w0 O E w m){s d:TypeId}(hx:dL w E p x)(h:rK P m s d p K):∃r v,K r∧(convert s d x).run P w=.ok v w∧dL w E r v:=by
 unfold rK at h
 split at h
 ·rename_i l
  split at h
  ·rename_i e hs hd
   obtain⟨he,h⟩:=h
   obtain⟨mb,hm,Us,h⟩:=iy h
   split at h
   ·rename_i ns hns
    obtain⟨B,hB,hb,rfl⟩:=hx.sI hk hm
    obtain⟨hl,CC⟩:=Ca hns
    cases hz:B.z with
    |true=>
     have h0:=hb.nil hz
     rw[h0]at hns
     simp only[tq,V1]at hns
     subst hns
     refine⟨_,.string (strOfNums []),h,?_,.c (.v _ rfl)⟩
     rw[show B.sv=.slice none 0 0 by simp[qa.sv,hz]]
     exact run_convert_bytes_nil w s e hs he 0 0 d hd
    |false=>
     obtain⟨cells,m1,m2,m3⟩:=hb.mem hz
     have hk':B.k=1:=hb.k.trans Us
     refine⟨_,.string (strOfNums ns),h,?_,.c (.v _ rfl)⟩
     rw[show B.sv=.slice (some ⟨B.b,0,none⟩) B.n B.c by simp[qa.sv,hz]]
     refine run_convert_bytes_arg w s e hs he B.b 0 B.n B.c ns (by rw[hl,hb.n]) (fun i hi=>?_) d hd
     rw[hb.n]at hi
     obtain⟨y,y1,_,y3⟩:=m3 i _ 0 _ (CC i hi) rfl
     rw[hk']at y1
     rw[cell_of_row w B.b _ cells B.T (0,0) m1,Wb]
     rw[y3.iG.1]at y1
     simpa using y1
   ·exact h.elim
  ·exact h.elim
 ·obtain⟨r,v,h1,h2,h3⟩:=Jv hx h
  exact⟨r,v,h1,h2 w,h3⟩
def qw(mx:Bool)(ps:List PV)(K:PV→Prop):Prop:=
 match ps with
 | [.v (.int k a),.v (.int k' b)]=>if mx then K (.v (.int k (if b > a then b else a)))else K (.v (.int k (if b<a then b else a)))
 |_=>False
def pO(P:Program)(o:Op)(t:List PV)(m:Mem)(K:PV→Prop):Prop:=
 match o with
 |.move x=>K (fX t x)
 |.assign x=>K (fX t x)
 |.pick c x y=>match fX t c with
  |.v (.bool b)=>K (if b then fX t x else fX t y)
  |_=>False
 |.load T a=>rR P T (Kv m (fX t a)) K
 |.nilCheck x=>Ek m (fX t x) K
 |.binOp op T x y _=>Jt P op T (fX t x) (fX t y) K
 |.unOp op _ x=>pUn op (fX t x) K
 |.convert s d x=>rK P m s d (fX t x) K
 |.makeFunc fn first cs=>match fn,first.toList with
  |.func f,[]=>K (.fn f (cs.toList.map (fX t)))
  |_,_=>False
 |.slice T x lo hi mx=>match mx with
  |none=>kA P m T (fX t x) (lo.map (fX t)) (hi.map (fX t)) K
  |some _=>False
 |.fieldAddr S x f=>kz P m S (fX t x) f K
 |.field T x f=>vJ P T (fX t x) f K
 |.indexAddr T x i=>cQ P m T (fX t x) (fX t i) K
 |.index T x i=>sJ P T (fX t x) (fX t i) K
 |.extract x i=>Jw i (fX t x) K
 |.build T ps=>vI P T (ps.toList.map fun q=>(q.1,fX t q.2)) K
 |.call c=>match c.callee with
  |.builtin .len=>match c.args.toList,c.argTypes.toList with
   | [x],[T]=>wZ P m T (fX t x) K
   |_,_=>False
  |.builtin .min=>qw false (c.args.toList.map (fX t)) K
  |.builtin .max=>qw true (c.args.toList.map (fX t)) K
  |_=>False
 |_=>False
theorem Nl{s:Sem Value}{w w':World}(h:s.run P w=.ok x w'):(do pure (Next.value (←s)):Sem Next).run P w=.ok (.value x) w':=by
 simp only[Sem.run_bind,h,Result.andThen_ok,Sem.run_pure]
theorem Ex{x:α}(h:a.toList=[x]):a=#[x]:=Array.ext' (by simpa using h)
theorem vZ{x y:α}(h:a.toList=[x,y]):a=#[x,y]:=Array.ext' (by simpa using h)
theorem LP(hk:Ok w0 O E w m){t:List PV}{a:Act}(ht:rE w E t a.tmps){o:Oper}(h:pO P o.op t m K):∃p,K p∧Kx P E w a o p:=by
 have ev:=yt ht
 have fin:∀{s:Sem Value},(∃r v,K r∧(∀w',s.run P w'=.ok v w')∧dL w E r v)→(execOp a.eval o=do pure (Next.value (←s)))→∃p,K p∧Kx P E w a o p:=by
  intro s ⟨r,v,hK,jh,sU⟩ he
  exact⟨r,hK,v,by rw[he];exact Nl (jh w),sU⟩
 unfold pO at h
 split at h
 ·rename_i x ho
  exact⟨_,h,a.eval x,by simp[execOp,ho],ev x⟩
 ·rename_i x ho
  exact⟨_,h,a.eval x,by simp[execOp,ho],ev x⟩
 ·rename_i c x y ho
  split at h
  ·rename_i b hc
   have h1:=ev c
   rw[hc]at h1
   have h2:=h1.iG.1
   refine⟨_,h,if b then a.eval x else a.eval y,by cases b<;>simp[execOp,ho,h2,asBool],?_⟩
   cases b
   ·exact ev y
   ·exact ev x
  ·exact h.elim
 ·rename_i T x ho
  cases hp:Kv m (fX t x)with
  |none=>rw[hp]at h;unfold rR at h;split at h<;>first|exact h.elim|simp_all
  |some cs=>
   rw[hp]at h
   obtain⟨b,off,hx,hb,hc⟩:=Ni hk (ev x) hp
   obtain⟨p,v,hK,jh,sU⟩:=Fi h hb hc
   exact⟨p,hK,v,by simp only[execOp,ho,hx];exact Nl (by simp only[Instr.loadAt,Instr.sureAddr,Sem.run_bind,Sem.run_pure,Result.andThen_ok];exact jh w (Up.rfl' w)),sU⟩
 ·rename_i x ho
  unfold Ek at h
  split at h
  ·rename_i l i oo hx
   obtain⟨mb,hm,hK⟩:=iy h
   have h1:=ev x
   rw[hx]at h1
   obtain⟨B,hB,hb,hz,e⟩:=h1.BY hk hm
   exact⟨_,hK,a.eval x,by simp[execOp,ho,e],h1⟩
  ·rename_i cs hx
   have h1:=ev x
   rw[hx]at h1
   have h2:∃b off,a.eval x=.pointer (some ⟨b,off,none⟩):=by
    generalize a.eval x=v at h1
    cases h1.L1 with
    |rp _ b off=>exact⟨b,off,rfl⟩
   obtain⟨b,off,h2⟩:=h2
   exact⟨_,h,a.eval x,by simp[execOp,ho,h2],h1⟩
  ·exact h.elim
 ·rename_i op T x y Ty ho
  exact fin (Lq (ox:=x) (oy:=y) (ev x) (ev y) h) (by simp only[execOp,ho])
 ·rename_i op T x ho
  exact fin (O0 (ev x) h) (by simp only[execOp,ho])
 ·rename_i s d x ho
  obtain⟨r,v,hK,jh,sU⟩:=GO hk (ev x) h
  exact⟨r,hK,v,by simp only[execOp,ho];exact Nl jh,sU⟩
 ·rename_i fn first cs ho
  split at h
  ·rename_i f hf
   have Te:first=#[]:=Array.ext' (by simpa using hf)
   subst Te
   refine⟨_,h,.func (.func f) #[] (cs.map a.eval),by simp[execOp,ho,Instr.makeFunc],.fn f _ _ (by simp) fun j p x hp hx=>?_⟩
   rw[Wj]at hp
   rw[X6]at hx
   cases hq:cs[j]? with
   |none=>simp[hq]at hx
   |some q=>
    rw[Wh,hq]at hp
    rw[hq]at hx
    simp only[Wr,V1]at hp hx
    rw[←hp,←hx]
    exact ev q
  ·exact h.elim
 ·rename_i T x lo hi mx ho
  split at h
  ·refine fin (GU hk (Bi:=lo.map a.eval) (Bh:=hi.map a.eval) (ev x) ?_ ?_ ?_ ?_ h) (by simp only[execOp,ho,Option.map_none])
   ·intro p hp;cases lo with
    |none=>cases hp
    |some z=>simp only[Wr,V1]at hp;exact⟨a.eval z,rfl,hp▸ev z⟩
   ·intro hp;cases lo with
    |none=>rfl
    |some z=>cases hp
   ·intro p hp;cases hi with
    |none=>cases hp
    |some z=>simp only[Wr,V1]at hp;exact⟨a.eval z,rfl,hp▸ev z⟩
   ·intro hp;cases hi with
    |none=>rfl
    |some z=>cases hp
  ·exact h.elim
 ·rename_i S x f ho
  exact fin (zW hk (ev x) h) (by simp only[execOp,ho])
 ·rename_i T x f ho
  exact fin (GQ (ev x) h) (by simp only[execOp,ho])
 ·rename_i T x i ho
  exact fin (zY hk (ev x) (ev i) h) (by simp only[execOp,ho])
 ·rename_i T x i ho
  exact fin (GR (ev x) (ev i) h) (by simp only[execOp,ho])
 ·rename_i x i ho
  exact fin (Ls (ev x) h) (by simp only[execOp,ho])
 ·rename_i T ps ho
  refine fin (GM (vs:=ps.map fun(i,x)=>(i,a.eval x)) (by simp) (fun j i p hj=>?_) h) (by simp only[execOp,ho])
  rw[Wj]at hj
  cases hq:ps.toList[j]? with
  |none=>rw[hq]at hj;cases hj
  |some q=>
   rw[hq]at hj
   simp only[Wr,V1,Prod.mk.injEq]at hj
   obtain⟨rfl,rfl⟩:=hj
   rw[Wh]at hq
   exact⟨a.eval q.2,by simp[hq],ev q.2⟩
 ·rename_i c ho
  split at h
  ·rename_i hc
   split at h
   ·rename_i x T hx hT
    obtain⟨callee,args,argTypes⟩:=c
    have ha:=Ex hx
    have hTs:=Ex hT
    simp only at hc ha hTs
    subst hc ha hTs
    obtain⟨r,v,hK,jh,sU⟩:=Lu (ty:=o.type) hk (ev x) h
    exact⟨r,hK,v,by simp[execOp,ho,resolve,invoke,builtin,jh],sU⟩
   ·exact h.elim
  ·rename_i hc
   unfold qw at h
   split at h
   ·rename_i k a1 k' b1 hargs
    obtain⟨callee,args,argTypes⟩:=c
    simp only at hc hargs
    subst hc
    obtain⟨x,l,e1,hx,e2⟩:=XF.1 hargs
    obtain⟨y,l2,e3,hy,e4⟩:=XF.1 e2
    rw[List.map_eq_nil_iff.1 e4]at e3
    rw[e3]at e1
    have ha:=vZ e1
    subst ha
    have vx:=ev x;rw[hx]at vx
    have vy:=ev y;rw[hy]at vy
    have vx:=vx.iG.1
    have vy:=vy.iG.1
    exact⟨_,h,.int k (if b1<a1 then b1 else a1),by simp[execOp,ho,resolve,invoke,builtin,vx,vy,run_min_int2],.c (.v _ rfl)⟩
   ·exact h.elim
  ·rename_i hc
   unfold qw at h
   split at h
   ·rename_i k a1 k' b1 hargs
    obtain⟨callee,args,argTypes⟩:=c
    simp only at hc hargs
    subst hc
    obtain⟨x,l,e1,hx,e2⟩:=XF.1 hargs
    obtain⟨y,l2,e3,hy,e4⟩:=XF.1 e2
    rw[List.map_eq_nil_iff.1 e4]at e3
    rw[e3]at e1
    have ha:=vZ e1
    subst ha
    have vx:=ev x;rw[hx]at vx
    have vy:=ev y;rw[hy]at vy
    have vx:=vx.iG.1
    have vy:=vy.iG.1
    exact⟨_,h,.int k (if b1 > a1 then b1 else a1),by simp[execOp,ho,resolve,invoke,builtin,vx,vy,run_max_int2],.c (.v _ rfl)⟩
   ·exact h.elim
  ·exact h.elim
 ·exact h.elim
def rA(m:Mem)(p:PV)(K:PV→Prop):Prop:=
 match p with
 |.ms l=>live m l fun mb=>K (@ite PV (∀cs∈mb.es,∀q∈cs,qE q=true) (Classical.propDecidable _) (.sl mb.es) .un)
 |.ss l a b=>live m l fun mb=>(∀cs∈mb.es,∀q∈cs,qE q=true)∧K (.sl ((mb.es.drop a).take (b-a)))
 |.v x=>K (.v x)
 |.sl es=>K (.sl es)
 |.rp cs=>K (.rp cs)
 |.un=>K .un
 |.ud=>K .ud
 |_=>False
def sQ(m:Mem):List PV→(List PV→Prop)→Prop
 | [],K=>K []
 |c::cs,K=>rA m c fun c'=>sQ m cs fun pS=>K (c'::pS)
def sR(m:Mem)(p:PV)(K:PV→Prop):Prop:=
 match p with
 |.ag cs=>sQ m cs fun pS=>K (.ag pS)
 |p=>rA m p K
def rU(m:Mem):List PV→(List PV→Prop)→Prop
 | [],K=>K []
 |c::cs,K=>sR m c fun c'=>rU m cs fun pS=>K (c'::pS)
def Qb(E:Env)(b:Nat):Prop:=E.S b∨nL E.β b
theorem fA.all{S S':Nat→Prop}(h:fA w S p x)(hS:∀b,S b→S' b):fA w S' p x:=h.ext hS fun _ _ _=>rfl
theorem dL.ZdQ(h:dL w E p x)(hc:qn p=true):fA w E.S p x:=by
 cases h with
 |c h=>exact h
 |_=>simp[qn]at hc
theorem dL.VN(h:dL w E p x)(hc:qE p=true):fA w E.S p x:=by
 cases h with
 |c h=>exact h
 |fn f cs vs hl hr=>
  simp only[qE,V5]at hc
  exact .fn f cs vs hl fun j p x hp hx=>(hr j p x hp hx).ZdQ (hc p (VW hp))
 |_=>simp[qE,qn]at hc
theorem Dq(hB:E.β l=some B)(hb:gb w E mb B)(qD:∀cs∈mb.es,∀q∈cs,qE q=true){S:Nat→Prop}(hS:∀b,E.S b→S b)(hSB:B.z=false→S B.b){a b:Nat}(Ba:a≤b)(PO:b≤B.n){A:Option Addr}{c:Nat}
 (hA:a<b→B.z=false∧A=some ⟨B.b,a*B.k,none⟩∧b-a≤c∧c≤maxLen):fA w S (.sl ((mb.es.drop a).take (b-a))) (.slice A (b-a) c):=by
 have hel:((mb.es.drop a).take (b-a)).length=b-a:=by rw[V8,WK,←hb.n];omega
 rcases WB a b with bF|yz
 ·obtain⟨hz,rfl,u4,DT⟩:=hA bF
  obtain⟨cells,m1,m2,m3⟩:=hb.mem hz
  have get:∀{i:Nat} {cs:List PV},((mb.es.drop a).take (b-a))[i]?=some cs→mb.es[a+i]?=some cs:=by
   intro i cs hi
   rw[WN]at hi
   split at hi
   ·rwa[WE]at hi
   ·cases hi
  have hex:∀ij:Nat×Nat,∃u:Value,∀cs p,mb.es[a+ij.1]?=some cs→cs[ij.2]?=some p→cells[(a+ij.1)*B.k+ij.2]?=some u∧u.oneCell'=true∧fA w S p u:=by
   intro⟨i,j⟩
   cases hi:mb.es[a+i]? with
   |none=>exact⟨undef,fun cs p h=>by simp[hi]at h⟩
   |some cs=>
    cases hj:cs[j]? with
    |none=>exact⟨undef,fun pS p h h'=>by simp only[hi,V1]at h;subst h;simp[hj]at h'⟩
    |some p=>
     obtain⟨u,u1,u2,u3⟩:=m3 _ cs j p hi hj
     refine⟨u,fun pS p' h h'=>?_⟩
     simp only[hi,V1]at h
     subst h
     simp only[hj,V1]at h'
     subst h'
     exact⟨u1,u2,(u3.VN (qD cs (VW hi) p (VW hj))).all hS⟩
  obtain⟨f,hf⟩:=XA hex
  have key:=fA.sl (w:=w) (S:=S) ((mb.es.drop a).take (b-a)) B.b (a*B.k) B.k c (fun i j=>f (i,j)) (hSB hz) hb.pos (by rw[hel];exact u4) DT (fun i cs hi=>hb.es _ cs (get hi))
   (fun i cs j p hi hj=>by
    have:=(hf (i,j) cs p (get hi) hj).1
    rw[cell_of_row w B.b _ cells B.T (0,0) m1,←this]
    congr 1
    simp only[W6]) (fun i cs j p hi hj=>(hf (i,j) cs p (get hi) hj).2.1) fun i cs j p hi hj=>(hf (i,j) cs p (get hi) hj).2.2
  rwa[hel]at key
 ·have PN:b-a=0:=by omega
  rw[PN,List.take_zero]
  exact .nil _ _
theorem VK(hb:gb w E mb B):∃A c,B.sv=.slice A B.n c∧(0<B.n→B.z=false∧A=some ⟨B.b,0,none⟩∧B.n≤c∧c≤maxLen):=by
 cases hz:B.z with
 |true=>exact⟨none,0,by simp[qa.sv,hz,hb.n,hb.nil hz],fun h=>by rw[hb.n,hb.nil hz]at h;simp at h⟩
 |false=>exact⟨_,_,by simp[qa.sv,hz],fun _=>⟨rfl,rfl,hb.nc,hb.cm⟩⟩
theorem Nk(hB:E.β l=some B)(hb:gb w E mb B)(qD:∀cs∈mb.es,∀q∈cs,qE q=true){S:Nat→Prop}(hS:∀b,E.S b→S b)(hSB:B.z=false→S B.b):fA w S (.sl mb.es) B.sv:=by
 obtain⟨A,c,DX,hA⟩:=VK hb
 have:=Dq hB hb qD hS hSB (a:=0) (b:=B.n) (WV _) (V3 _) (A:=A) (c:=c) (by simpa using hA)
 rw[DX]
 simpa[hb.n]using this
theorem Fy(hk:Ok w0 O E w m)(hx:dL w E p x)(h:rA m p K):∃q,K q∧fA w (Qb E) q x∧qE q=true:=by
 unfold rA at h
 split at h
 ·rename_i l
  obtain⟨mb,hm,hK⟩:=iy h
  by_cases qD:∀cs∈mb.es,∀q∈cs,qE q=true
  ·rw[if_pos qD]at hK
   obtain⟨B,hB,hb,rfl⟩:=hx.sI hk hm
   exact⟨_,hK,Nk hB hb qD (fun b hb=>.inl hb) fun hz=>.inr ⟨l,B,hB,hz,rfl⟩,rfl⟩
  ·rw[if_neg qD]at hK
   exact⟨_,hK,.un x,rfl⟩
 ·rename_i l a b
  obtain⟨mb,hm,qD,hK⟩:=iy h
  obtain⟨B,hB,hb,A,c,rfl,Ba,PO,hA⟩:=hx.Al hk hm
  exact⟨_,hK,Dq hB hb qD (fun b hb=>.inl hb) (fun hz=>.inr ⟨l,B,hB,hz,rfl⟩) Ba PO hA,rfl⟩
 ·exact⟨_,h,(hx.VN rfl).all fun b hb=>.inl hb,rfl⟩
 ·exact⟨_,h,(hx.VN rfl).all fun b hb=>.inl hb,rfl⟩
 ·exact⟨_,h,(hx.VN rfl).all fun b hb=>.inl hb,rfl⟩
 ·exact⟨_,h,(hx.VN rfl).all fun b hb=>.inl hb,rfl⟩
 ·exact⟨_,h,(hx.VN rfl).all fun b hb=>.inl hb,rfl⟩
 ·exact h.elim
def Zcj(w:World)(S:Nat→Prop)(q:PV)(x:Value):Prop:=∀β n ω,dL w (E1 S β n ω) q x
theorem Fz(hk:Ok w0 O E w m):∀(cs:List PV) (vs:List Value) (K:List PV→Prop),vs.length=cs.length→(∀(j:Nat) (p:PV) (x:Value),cs[j]?=some p→vs[j]?=some x→dL w E p x)→sQ m cs K→
 ∃ds,K ds∧ds.length=cs.length∧∀(j:Nat) (q:PV) (x:Value),ds[j]?=some q→vs[j]?=some x→fA w (Qb E) q x
 | [],[],K,_,_,h=>⟨[],h,rfl,by simp⟩
 | [],_::_,_,hl,_,_=>by simp at hl
 |_::_,[],_,hl,_,_=>by simp at hl
 |c::cs,v::vs,K,hl,hr,h=>by
  obtain⟨q,hK,hq,_⟩:=Fy hk (hr 0 c v rfl rfl) h
  obtain⟨ds,Ui,Ri,hd⟩:=Fz hk cs vs _ (by simpa using hl) (fun j p x hp hx=>hr (j+1) p x (by simpa using hp) (by simpa using hx)) hK
  refine⟨q::ds,Ui,by simp[Ri],fun j q' x hj hx=>?_⟩
  cases j with
  |zero=>simp only[Xs,V1]at hj hx;subst hj hx;exact hq
  |succ j=>exact hd j q' x (by simpa using hj) (by simpa using hx)
theorem Px(hk:Ok w0 O E w m)(hx:dL w E p x)(h:sR m p K):∃q,K q∧Zcj w (Qb E) q x:=by
 unfold sR at h
 split at h
 ·rename_i cs
  obtain⟨vs,rfl,hl,h1,hr⟩:=hx.qg
  obtain⟨ds,hK,Ri,hd⟩:=Fz hk cs vs.toList _ (by simpa using hl) (fun j p x hp hx=>hr j p x hp (by simpa using hx)) h
  exact⟨_,hK,fun β n ω=>.ag ds vs (by rw[hl,Ri]) h1 fun j p x hp hx=>.c (hd j p x hp (by simpa using hx))⟩
 ·obtain⟨q,hK,hq,_⟩:=Fy hk hx h
  exact⟨q,hK,fun β n ω=>.c hq⟩
theorem Fx(hk:Ok w0 O E w m):∀(cs:List PV) (vs:List Value) (K:List PV→Prop),vs.length=cs.length→(∀(j:Nat) (p:PV) (x:Value),cs[j]?=some p→vs[j]?=some x→dL w E p x)→rU m cs K→
 ∃ds,K ds∧ds.length=cs.length∧∀(j:Nat) (q:PV) (x:Value),ds[j]?=some q→vs[j]?=some x→Zcj w (Qb E) q x
 | [],[],K,_,_,h=>⟨[],h,rfl,by simp⟩
 | [],_::_,_,hl,_,_=>by simp at hl
 |_::_,[],_,hl,_,_=>by simp at hl
 |c::cs,v::vs,K,hl,hr,h=>by
  obtain⟨q,hK,hq⟩:=Px hk (hr 0 c v rfl rfl) h
  obtain⟨ds,Ui,Ri,hd⟩:=Fx hk cs vs _ (by simpa using hl) (fun j p x hp hx=>hr (j+1) p x (by simpa using hp) (by simpa using hx)) hK
  refine⟨q::ds,Ui,by simp[Ri],fun j q' x hj hx=>?_⟩
  cases j with
  |zero=>simp only[Xs,V1]at hj hx;subst hj hx;exact hq
  |succ j=>exact hd j q' x (by simpa using hj) (by simpa using hx)
end
def sN(σ:Nat→Nat):PV→PV
 |.ms l=>.ms (σ l)
 |.ss l a b=>.ss (σ l) a b
 |.be l i o=>.be (σ l) i o
 |p=>p
def qz(σ:Nat→Nat):PV→PV
 |.fn f cs=>.fn f (cs.map (sN σ))
 |p=>sN σ p
def uF(σ:Nat→Nat):PV→PV
 |.ag cs=>.ag (cs.map (qz σ))
 |p=>qz σ p
def Ad(σ:Nat→Nat):PV→PV
 |.tu vs=>.tu (vs.map (uF σ))
 |p=>uF σ p
def rT(σ:Nat→Nat)(es:List (List PV)):List (List PV):=es.map (·.map (qz σ))
def mU(σ:Nat→Nat)(mb:MB):MB:=⟨mb.T,mb.k,rT σ mb.es⟩
def qQ:PV→Bool
 |.ag _|.tu _|.fn _ _=>false
 |_=>true
def cE(flat:Bool):PV→Prop
 |.fn _ cs=>flat=false∧∀c∈cs,qQ c=true
 |p=>flat=true→HE p=true
def kb(flat:Bool):PV→Prop
 |.ag cs=>∀c∈cs,cE flat c
 |.tu _=>False
 |p=>cE flat p
def ln(flat:Bool):PV→Prop
 |.tu vs=>∀v∈vs,kb flat v
 |p=>kb flat p
theorem Vl{σ:Nat→Nat}(h:qz σ p=.sl es):p=.sl es:=by
 unfold qz at h
 split at h
 ·cases h
 ·rename_i q _
  cases p<;>simp[sN]at h⊢<;>exact h
theorem fA.flat{w:World}{S S':Nat→Prop}(hF:HE p=true)(h:fA w S p x):fA w S' p x:=by
 cases h with
 |v x h=>exact .v x h
 |ud=>exact .ud
 |un x=>exact .un x
 |_=>simp[HE]at hF
section
variable {w':World} {E' E2:Env} {σ:Nat→Nat} {flat:Bool}
theorem JR(xF:∀l B,E'.used l→E2.β (σ l)=some B→E'.β l=some B)(hu:∀l,E'.used l→E2.used (σ l))(hS:∀p x,(flat=true→HE p=true)→fA w' E'.S p x→fA w' E2.S p x)
 (h:dL w' E' p x) (hp:qQ p=true) (hG:flat=true→HE p=true):dL w' E2 (sN σ p) x:=by
 cases h with
 |c h=>
  have:sN σ p=p:=by cases h<;>rfl
  rw[this]
  exact .c (hS p x hG h)
 |ms l _ hl h1 h=>exact .ms _ _ (hu l hl) h1 fun B hB=>h B (xF l B hl hB)
 |ss l a b _ hl h1 h=>exact .ss _ _ _ _ (hu l hl) h1 fun B hB=>h B (xF l B hl hB)
 |be l i o _ hl h1 h=>exact .be _ _ _ _ (hu l hl) h1 fun B hB=>h B (xF l B hl hB)
 |ag cs=>simp[qQ]at hp
 |tu cs=>simp[qQ]at hp
 |fn f cs=>simp[qQ]at hp
theorem Dk(xF:∀l B,E'.used l→E2.β (σ l)=some B→E'.β l=some B)(hu:∀l,E'.used l→E2.used (σ l))(hS:∀p x,(flat=true→HE p=true)→fA w' E'.S p x→fA w' E2.S p x)
 (h:dL w' E' p x) (hp:cE flat p) (hna:∀cs,p≠.ag cs) (hnt:∀cs,p≠.tu cs):dL w' E2 (qz σ p) x:=by
 cases p with
 |fn f cs=>
  obtain⟨EV,qF⟩:=hp
  obtain⟨vs,rfl,hl,hr⟩:=h.Ge
  refine .fn f _ vs (by simp[hl]) fun j q x hq hx=>?_
  rw[Wj]at hq
  cases hc:cs[j]? with
  |none=>simp[hc]at hq
  |some c=>
   simp only[hc,Wr,V1]at hq
   subst hq
   exact JR xF hu hS (hr j c x hc hx) (qF c (VW hc)) (fun h=>by rw[EV]at h;cases h)
 |ag cs=>exact absurd rfl (hna cs)
 |tu cs=>exact absurd rfl (hnt cs)
 |_=>exact JR xF hu hS h rfl hp
theorem JS(xF:∀l B,E'.used l→E2.β (σ l)=some B→E'.β l=some B)(hu:∀l,E'.used l→E2.used (σ l))(hS:∀p x,(flat=true→HE p=true)→fA w' E'.S p x→fA w' E2.S p x)
 (h:dL w' E' p x) (hp:kb flat p):dL w' E2 (uF σ p) x:=by
 cases p with
 |ag cs=>
  obtain⟨vs,rfl,hl,h1,hr⟩:=h.qg
  refine .ag _ vs (by simp[hl]) h1 fun j q x hq hx=>?_
  rw[Wj]at hq
  cases hc:cs[j]? with
  |none=>simp[hc]at hq
  |some c=>
   simp only[hc,Wr,V1]at hq
   subst hq
   have hrc:=hr j c x hc hx
   have vu:=h1 j x hx
   refine Dk xF hu hS hrc (hp c (VW hc)) (fun cs e=>?_) (fun cs e=>?_)
   ·subst e;obtain⟨_,rfl,_⟩:=hrc.qg;simp[Value.oneCell']at vu
   ·subst e;obtain⟨_,rfl,_⟩:=hrc.xV;simp[Value.oneCell']at vu
 |tu vs=>exact hp.elim
 |_=>exact Dk xF hu hS h hp (by simp) (by simp)
theorem Su(xF:∀l B,E'.used l→E2.β (σ l)=some B→E'.β l=some B)(hu:∀l,E'.used l→E2.used (σ l))(hS:∀p x,(flat=true→HE p=true)→fA w' E'.S p x→fA w' E2.S p x)
 (h:dL w' E' p x) (hp:ln flat p):dL w' E2 (Ad σ p) x:=by
 cases p with
 |tu ps=>
  obtain⟨vs,rfl,hl,hr⟩:=h.xV
  refine .tu _ vs (by simp[hl]) fun j q x hq hx=>?_
  rw[Wj]at hq
  cases hc:ps[j]? with
  |none=>simp[hc]at hq
  |some c=>
   simp only[hc,Wr,V1]at hq
   subst hq
   exact JS xF hu hS (hr j c x hc hx) (hp c (VW hc))
 |_=>exact JS xF hu hS h hp
end
/-! The other aE round: Kk a callee is ZeL. -/
def sV(n:Nat):PV→Bool
 |.ms l=>decide (l<n)
 |.ss l _ _=>decide (l<n)
 |.be l _ _=>decide (l<n)
 |_=>true
def rI(n:Nat):PV→Bool
 |.fn _ cs=>cs.all (sV n)
 |p=>sV n p
def yR(n:Nat):PV→Bool
 |.ag cs=>cs.all (rI n)
 |p=>rI n p
section
variable {w:World} {E:Env} {S:Nat→Prop} {β:Nat→Option qa} {n:Nat} {σ:Nat→Nat}
theorem NI(xF:∀l B,β l=some B→E.β (σ l)=some B)(hS:∀b,E.S b→S b)(h:dL w E (sN σ p) x)(hp:qQ p=true)(CE:sV n p=true):dL w (E1 S β n ω) p x:=by
 cases p with
 |ms l=>
  cases h with
  |c h=>cases h
  |ms _ _ hl h1 h=>exact .ms _ _ (show _<n by simpa[sV]using CE) h1 fun B hB=>h B (xF l B hB)
 |ss l a b=>
  cases h with
  |c h=>cases h
  |ss _ _ _ _ hl h1 h=>exact .ss _ _ _ _ (show _<n by simpa[sV]using CE) h1 fun B hB=>h B (xF l B hB)
 |be l i o=>
  cases h with
  |c h=>cases h
  |be _ _ _ _ hl h1 h=>exact .be _ _ _ _ (show _<n by simpa[sV]using CE) h1 fun B hB=>h B (xF l B hB)
 |ag cs=>simp[qQ]at hp
 |tu cs=>simp[qQ]at hp
 |fn f cs=>simp[qQ]at hp
 |v y=>cases h with|c h=>exact .c (h.all hS)
 |ud=>cases h with|c h=>exact .c (h.all hS)
 |un=>cases h with|c h=>exact .c (h.all hS)
 |sl es=>cases h with|c h=>exact .c (h.all hS)
 |rp cs=>cases h with|c h=>exact .c (h.all hS)
theorem Hq(xF:∀l B,β l=some B→E.β (σ l)=some B)(hS:∀b,E.S b→S b)(h:dL w E (qz σ p) x)(hp:cE false p)(CE:rI n p=true)(hna:∀cs,p≠.ag cs)(hnt:∀cs,p≠.tu cs):dL w (E1 S β n ω) p x:=by
 cases p with
 |fn f cs=>
  obtain⟨vs,rfl,hl,hr⟩:=h.Ge
  simp only[rI,V5]at CE
  refine .fn f _ vs (by simpa using hl) fun j q x hq hx=>?_
  exact NI xF hS (hr j (sN σ q) x (by simp[hq]) hx) (hp.2 q (VW hq)) (CE q (VW hq))
 |ag cs=>exact absurd rfl (hna cs)
 |tu cs=>exact absurd rfl (hnt cs)
 |_=>exact NI xF hS h rfl CE
theorem VQ(xF:∀l B,β l=some B→E.β (σ l)=some B)(hS:∀b,E.S b→S b)(h:dL w E (uF σ p) x)(hp:kb false p)(CE:yR n p=true):dL w (E1 S β n ω) p x:=by
 cases p with
 |ag cs=>
  obtain⟨vs,rfl,hl,h1,hr⟩:=h.qg
  simp only[yR,V5]at CE
  refine .ag _ vs (by simpa using hl) h1 fun j q x hq hx=>?_
  have hrc:=hr j (qz σ q) x (by simp[hq]) hx
  have vu:=h1 j x hx
  refine Hq xF hS hrc (hp q (VW hq)) (CE q (VW hq)) (fun cs e=>?_) (fun cs e=>?_)
  ·subst e;obtain⟨_,rfl,_⟩:=dL.qg hrc;simp[Value.oneCell']at vu
  ·subst e;obtain⟨_,rfl,_⟩:=dL.xV hrc;simp[Value.oneCell']at vu
 |tu vs=>exact hp.elim
 |_=>exact Hq xF hS h hp CE (by simp) (by simp)
end
def sig(ρ:List Nat)(ν:Nat)(i:Nat):Nat:=if i<ρ.length then ρ.getD i 0 else ν+(i-ρ.length)
def oZ(σ:Nat→Nat)(m:Mem)(n:Nat):List Nat→Mem→Prop
 | [],[]=>True
 |l::ρ,some Ku::m0=>m[l]?=some (some (mU σ Ku))∧(∀cs∈Ku.es,∀p∈cs,cE false p∧rI n p=true)∧oZ σ m n ρ m0
 |_,_=>False
def kC(σ:Nat→Nat):List Nat→Mem→Mem→Mem
 |l::ρ,r::m1,m=>kC σ ρ m1 (m.set l (r.map (mU σ)))
 |_,_,m=>m
def iX(σ:Nat→Nat):Nat→Mem→Mem→Mem
 |_,[],m=>m
 |ν,some mb::m1,m=>iX σ (ν+1) m1 (nV m ν (mU σ mb))
 |ν,none::m1,m=>iX σ (ν+1) m1 ((m++WA (ν+1-m.length) none).set ν none)
theorem sG{σ:Nat→Nat}{m:Mem}{n:Nat}:∀{ρ:List Nat} {m0:Mem},oZ σ m n ρ m0→ρ.length=m0.length∧∀(i l:Nat),ρ[i]?=some l→∃Ku:MB,m0[i]?=some (some Ku)∧m[l]?=some (some (mU σ Ku))∧∀cs∈Ku.es,∀p∈cs,cE false p∧rI n p=true
 | [],[],_=>⟨rfl,by simp⟩
 | [],_::_,h=>h.elim
 |_::_,[],h=>h.elim
 |l::ρ,none::m0,h=>h.elim
 |l::ρ,some Ku::m0,h=>by
  obtain⟨h1,h2⟩:=sG h.2.2
  refine⟨by simp[h1],fun i l' hi=>?_⟩
  cases i with
  |zero=>
   obtain rfl:l=l':=by simpa using hi
   exact⟨Ku,rfl,h.1,h.2.1⟩
  |succ i=>exact h2 i l' (by simpa using hi)
theorem Fp{σ:Nat→Nat}:∀(ρ:List Nat) (m1 m:Mem),(kC σ ρ m1 m).length=m.length
 | [],_,_=>by unfold kC;rfl
 |_::_,[],_=>by unfold kC;rfl
 |l::ρ,r::m1,m=>by unfold kC;rw[Fp];simp
theorem Db{σ:Nat→Nat}:∀(ρ:List Nat) (m1 m:Mem) (l:Nat),l ∉ ρ→(kC σ ρ m1 m)[l]?=m[l]?
 | [],_,_,_,_=>by unfold kC;rfl
 |_::_,[],_,_,_=>by unfold kC;rfl
 |k::ρ,r::m1,m,l,hl=>by
  unfold kC
  rw[Db ρ m1 _ l (fun h=>hl (Wi _ h)),Wt (by rintro rfl;exact hl Wp)]
theorem Fo{σ:Nat→Nat}:∀(ρ:List Nat) (m1 m:Mem),ρ.Nodup→(∀l∈ρ,l<m.length)→ρ.length≤m1.length→∀(i l:Nat),ρ[i]?=some l→(kC σ ρ m1 m)[l]?=(m1[i]?).map (Option.map (mU σ))
 | [],_,_,_,_,_,_,_,h=>by simp at h
 |_::_,[],_,_,_,hl,_,_,_=>by simp at hl
 |k::ρ,r::m1,m,hn,bF,hl,i,l,hi=>by
  unfold kC
  rw[List.nodup_cons]at hn
  cases i with
  |zero=>
   obtain rfl:k=l:=by simpa using hi
   rw[Db ρ m1 _ k hn.1,Wl (bF k Wp)]
   rfl
  |succ i=>
   rw[Fo ρ m1 _ hn.2 (fun l' AA=>by rw[WL];exact bF l' (Wi _ AA)) (by simpa using hl) i l (by simpa using hi)]
   simp
theorem xO{σ:Nat→Nat}:∀(ν:Nat) (m1 m:Mem),m.length≤(iX σ ν m1 m).length∧∀i,i<m1.length→ν+i<(iX σ ν m1 m).length
 |ν,[],m=>by unfold iX;simp
 |ν,some mb::m1,m=>by
  unfold iX
  obtain⟨h1,h2⟩:=xO (σ:=σ) (ν+1) m1 (nV m ν (mU σ mb))
  rw[CX]at h1
  refine⟨by omega,fun i hi=>?_⟩
  cases i with
  |zero=>omega
  |succ i=>have:=h2 i (by simpa using hi);omega
 |ν,none::m1,m=>by
  unfold iX
  obtain⟨h1,h2⟩:=xO (σ:=σ) (ν+1) m1 ((m++WA (ν+1-m.length) none).set ν none)
  simp only[WL,List.length_append,List.length_replicate]at h1
  refine⟨by omega,fun i hi=>?_⟩
  cases i with
  |zero=>omega
  |succ i=>have:=h2 i (by simpa using hi);omega
theorem U6{m:Mem}{n l ν:Nat}(h:((m++WA n none).set ν none)[l]?=some (some mb)):m[l]?=some (some mb):=by
 rw[List.getElem?_set]at h
 split at h
 ·split at h<;>simp at h
 rcases WB l m.length with h1|h1
 ·rwa[Wd h1]at h
 ·rw[We h1,XO]at h
  split at h<;>simp at h
theorem xN{σ:Nat→Nat}:∀(ν:Nat) (m1 m:Mem) (l:Nat) (mb:MB),(iX σ ν m1 m)[l]?=some (some mb)→(∃i MZ,l=ν+i∧m1[i]?=some (some MZ)∧mb=mU σ MZ)∨m[l]?=some (some mb)
 |ν,[],m,l,mb,h=>by unfold iX at h;exact .inr h
 |ν,some MZ::m1,m,l,mb,h=>by
  unfold iX at h
  rcases xN (σ:=σ) (ν+1) m1 _ l mb h with⟨i,mb2,rfl,h1,h2⟩ |h'
  ·exact .inl ⟨i+1,mb2,by omega,by simpa using h1,h2⟩
  ·by_cases hl:l=ν
   ·subst hl
    rw[ua]at h'
    exact .inl ⟨0,MZ,rfl,rfl,by simpa[eq_comm]using h'⟩
   ·exact .inr ((yT hl).1 h')
 |ν,none::m1,m,l,mb,h=>by
  unfold iX at h
  rcases xN (σ:=σ) (ν+1) m1 _ l mb h with⟨i,mb2,rfl,h1,h2⟩ |h'
  ·exact .inl ⟨i+1,mb2,by omega,by simpa using h1,h2⟩
  ·exact .inr (U6 h')
def tc(m:Mem)(l:Nat):Bool:=match m[l]? with
 |some (some _)=>true
 |_=>false
theorem tW{m:Mem}:tc m l=true↔∃mb,m[l]?=some (some mb):=by
 unfold tc
 split
 ·rename_i mb h;simp[h]
 ·rename_i h
  simp only[WU,false_iff]
  rintro⟨mb,hm⟩
  exact h mb hm
theorem gb.renamed{w':World}{E' E2:Env}{σ:Nat→Nat}{flat:Bool}(h:gb w' E' mb B)(hg:∀cs∈mb.es,∀p∈cs,cE flat p)(xF:∀l B,E'.used l→E2.β (σ l)=some B→E'.β l=some B)(hu:∀l,E'.used l→E2.used (σ l))
 (hS:∀p x,(flat=true→HE p=true)→fA w' E'.S p x→fA w' E2.S p x) (hω:flat=false→∀b q,E'.ω b q→E2.ω b q):gb w' E2 (mU σ mb) B:=by
 refine⟨h.k,by rw[h.n];simp[mU,rT],h.T,h.pos,h.nc,h.cm,fun i cs hi=>?_,fun hz=>by simp[mU,rT,h.nil hz],fun hz=>?_,fun T hT hz i cs j es x hi hj iw hc=>?_⟩
 ·simp only[mU,rT,Wj]at hi
  obtain⟨cs0,h0,rfl⟩:=Ww.1 hi
  rw[Wg];exact h.es i cs0 h0
 ·obtain⟨cells,m1,m2,m3⟩:=h.mem hz
  refine⟨cells,m1,m2,fun i cs j p hi hj=>?_⟩
  simp only[mU,rT,Wj]at hi
  obtain⟨cs0,h0,rfl⟩:=Ww.1 hi
  rw[Wj]at hj
  obtain⟨p0,hp0,rfl⟩:=Ww.1 hj
  obtain⟨x,x1,x2,x3⟩:=m3 i cs0 j p0 h0 hp0
  refine⟨x,x1,x2,Dk xF hu hS x3 (hg cs0 (VW h0) p0 (VW hp0)) (fun cs e=>?_) (fun cs e=>?_)⟩
  ·subst e;obtain⟨_,rfl,_⟩:=x3.qg;simp[Value.oneCell']at x2
  ·subst e;obtain⟨_,rfl,_⟩:=x3.xV;simp[Value.oneCell']at x2
 ·simp only[mU,rT,Wj]at hi
  obtain⟨cs0,h0,rfl⟩:=Ww.1 hi
  rw[Wj]at hj
  obtain⟨p0,hp0,he⟩:=Ww.1 hj
  obtain rfl:=Vl he
  have hg0:=hg cs0 (VW h0) _ (VW hp0)
  cases EV:flat with
  |true=>rw[EV]at hg0;simp[cE,HE]at hg0
  |false=>
   obtain⟨b,c,k,TO,a1,a2,a3⟩:=h.key T hT hz i cs0 j es x h0 hp0 iw hc
   exact⟨b,c,k,TO,a1,hω EV b _ a2,a3⟩
section
variable {w:World} {O:Nat→Prop} {E:Env} {w0:World} {m:Mem} {P:Program}
open Classical in
theorem Ih(hk:Ok w0 O E w m){ν:Nat}{f:FuncId}{qs:List PV}{vs:Array Value}{ρ:List Nat}{m0 m1:Mem}{r:PV}{flat:Bool}{S:Nat→Prop}(hc:iZ P f qs m0 r m1)(vz:∀i,i<m1.length-m0.length→¬E.used (ν+i))(hle:m0.length≤m1.length)
 (hl:vs.size=qs.length) (hargs:∀β:Nat→Option qa,(∀l B,β l=some B→E.β (sig ρ ν l)=some B)→∀(i:Nat) (p:PV),qs[i]?=some p→∃x,vs[i]?=some x∧dL w (E1 S β m0.length E.ω) p x)
 (hn:ρ.Nodup) (uC:oZ (sig ρ ν) m m0.length ρ m0) (Tc:∀b,E.S b→S b) (D4:flat=false→S=E.S) (EV:flat=true→m0=[]) (ZeG:∀b,S b→b<w.heap.size)
 (Kq:∀mb,some mb∈m1→∀cs∈mb.es,∀p∈cs,cE flat p) (hr:ln flat r):
 Calls P f vs w fun e w'=>∃v E2,e=.returned v∧Ok w0 O E2 w' (iX (sig ρ ν) ν (m1.drop ρ.length) (kC (sig ρ ν) ρ m1 m))∧Ext w w' E E2∧dL w' E2 (Ad (sig ρ ν) r) v∧∀l,E2.used l→E.used l∨(ν≤l∧l<ν+(m1.length-m0.length)):=by
 obtain⟨Zbm,hρ⟩:=sG uC
 have Hm:∀{i l},ρ[i]?=some l→sig ρ ν i=l:=fun {i l} h=>by
  have hi:i<ρ.length:=(VU.1 h).1
  unfold sig W0
  rw[if_pos hi,h];rfl
 have qC:∀{i},i<ρ.length→∃l,ρ[i]?=some l∧sig ρ ν i=l:=fun {i} hi=>⟨ρ[i],VT hi,Hm (VT hi)⟩
 have Ai:∀{i},¬i<ρ.length→sig ρ ν i=ν+(i-ρ.length):=fun {i} hi=>by simp[sig,hi]
 have yD:∀{i},i<m1.length→E.used (sig ρ ν i)→i<ρ.length:=fun {i} hi hu=>by
  by_cases h:i<ρ.length
  ·exact h
  ·rw[Ai h]at hu
   exact absurd hu (vz _ (by omega))
 have UC:∀l∈ρ,E.used l:=fun l hl=>by
  obtain⟨i,hi⟩:=Xm hl
  obtain⟨Ku,_,h2,_⟩:=hρ i l hi
  exact lU hk h2
 have Hl:∀{i j},i<m1.length→j<m1.length→sig ρ ν i=sig ρ ν j→i=j:=by
  intro i j hi hj e
  by_cases h1:i<ρ.length<;>by_cases h2:j<ρ.length
  ·obtain⟨a,ha,ea⟩:=qC h1
   obtain⟨b,hb,eb⟩:=qC h2
   have Ba:a=b:=by rw[←ea,←eb,e]
   subst Ba
   rw[VT h1,V1]at ha
   rw[VT h2,V1]at hb
   rcases Nat.lt_trichotomy i j with h3|h3|h3
   ·exact absurd (ha.trans hb.symm) (WG.1 hn i j h1 h2 h3)
   ·exact h3
   ·exact absurd (hb.trans ha.symm) (WG.1 hn j i h2 h1 h3)
  ·obtain⟨a,ha,ea⟩:=qC h1
   have:=yD hj (by rw[←e,ea];exact UC a (VW ha))
   omega
  ·obtain⟨b,hb,eb⟩:=qC h2
   have:=yD hi (by rw[e,eb];exact UC b (VW hb))
   omega
  ·rw[Ai h1,Ai h2]at e;omega
 -- the Zct rows
 let β:Nat→Option qa:=fun i=>if i<ρ.length then E.β (sig ρ ν i)else none
 have Ed:∀{i B},β i=some B→i<ρ.length∧E.β (sig ρ ν i)=some B:=fun {i B} h=>by
  simp only[β]at h
  split at h
  ·exact⟨by assumption,h⟩
  ·cases h
 have hnS:∀l B,E.β l=some B→B.z=false→l∈ρ→¬S B.b:=fun l B hB hz Zda=>by
  cases flat with
  |false=>rw[D4 rfl];exact(hk.own l B hB hz).2.2
  |true=>
   have:=EV rfl
   rw[this]at Zbm
   rw[W4.1 Zbm]at Zda
   cases Zda
 have Ze8:Ok w (nL β) (E1 S β m0.length E.ω) w m0:=by
  refine⟨FX.refl _ _,ZeG,fun l B hB hz=>?_,fun l l' B B' hB kL hz tT e=>?_,fun l hl=>hl,fun l B hB=>?_,fun l Ku hm0=>?_,fun l B hB=>?_,hk.ZfG fun b hb=>?_,fun b q hq=>⟨Tc b (hk.ow b q hq).1,(hk.ow b q hq).2⟩⟩
  ·obtain⟨h1,h2⟩:=Ed hB
   obtain⟨a,ha,ea⟩:=qC h1
   rw[ea]at h2
   exact⟨.inl ⟨l,B,hB,hz,rfl⟩,(hk.own a B h2 hz).2.1,hnS a B h2 hz (VW ha)⟩
  ·obtain⟨h1,h2⟩:=Ed hB
   obtain⟨h3,h4⟩:=Ed kL
   exact Hl (by omega) (by omega) (hk.inj _ _ B B' h2 h4 hz tT e)
  ·have:=(Ed hB).1
   show l<m0.length
   omega
  ·have D9:l<ρ.length:=by rw[Zbm];exact(VU.1 hm0).1
   obtain⟨a,ha,ea⟩:=qC D9
   obtain⟨ZgA,h1,h2,h3⟩:=hρ l a ha
   rw[hm0]at h1
   simp only[V1]at h1
   subst h1
   obtain⟨B,hB,hb⟩:=hk.mem a _ h2
   refine⟨B,by simp only[E1,β];rw[if_pos D9,ea];exact hB,hb.k,by rw[hb.n];simp[mU,rT],hb.T,hb.pos,hb.nc,hb.cm,fun i cs hi=>?_,fun hz=>?_,fun hz=>?_,fun T hT hz i cs j es x hi hj iw Td=>?_⟩
   ·have:=hb.es i (cs.map (qz (sig ρ ν))) (by simp[mU,rT,hi])
    simpa using this
   ·have:=hb.nil hz
    simpa[mU,rT]using this
   ·obtain⟨cells,m1',m2',m3'⟩:=hb.mem hz
    refine⟨cells,m1',m2',fun i cs j p hi hj=>?_⟩
    obtain⟨x,x1,x2,x3⟩:=m3' i (cs.map (qz (sig ρ ν))) j (qz (sig ρ ν) p) (by simp[mU,rT,hi]) (by simp[hj])
    have sE:=h3 cs (VW hi) p (VW hj)
    refine⟨x,x1,x2,Hq (E:=E) (fun l B hB=>(Ed hB).2) Tc x3 sE.1 sE.2 (fun cs e=>?_) (fun cs e=>?_)⟩
    ·subst e;obtain⟨_,rfl,_⟩:=dL.qg x3;simp[Value.oneCell']at x2
    ·subst e;obtain⟨_,rfl,_⟩:=dL.xV x3;simp[Value.oneCell']at x2
   ·exact hb.key T hT hz i (cs.map (qz (sig ρ ν))) j es x (by simp[mU,rT,hi]) (by simp[hj,qz,sN]) iw Td
  ·obtain⟨h1,h2⟩:=Ed hB
   obtain⟨a,ha,ea⟩:=qC h1
   obtain⟨Ku,h3,_⟩:=hρ l a ha
   exact⟨Ku,h3⟩
  ·obtain⟨l,B,hB,hz,rfl⟩:=hb
   obtain⟨h1,h2⟩:=Ed hB
   exact(hk.own _ B h2 hz).1
 refine(hc S β w vs E.ω Ze8 hl (hargs β fun l B hB=>(Ed hB).2)).mono ?_
 rintro e w' ⟨v,E',rfl,ik,hSS,hSn,⟨Zfj,Zds⟩,sU⟩
 have Uu:∀{i},E'.used i→i<m1.length:=fun {i} h=>ik.used i h
 -- the Zcu rows behind the call
 let m2:=iX (sig ρ ν) ν (m1.drop ρ.length) (kC (sig ρ ν) ρ m1 m)
 let S2:Nat→Prop:=fun b=>if flat then E.S b else E'.S b
 let β2:Nat→Option qa:=fun l=>if tc m2 l=true then(if h:∃i,i<m1.length∧sig ρ ν i=l then E'.β (X7 h)else E.β l)else none
 let E2:Env:={ S:=S2,β:=β2,used:=fun l=>E.used l∨∃i,E'.used i∧sig ρ ν i=l,ω:=fun b q=>E.ω b q∨(flat=false∧E'.ω b q)}
 have Zar:∀l∈ρ,l<m.length:=fun l hl=>hk.used l (UC l hl)
 have CC:∀{l mb},m2[l]?=some (some mb)→(∃i MZ,i<m1.length∧sig ρ ν i=l∧m1[i]?=some (some MZ)∧mb=mU (sig ρ ν) MZ)∨(l ∉ ρ∧(¬ ∃i,i<m1.length∧sig ρ ν i=l)∧m[l]?=some (some mb)):=by
  intro l mb h
  rcases xN _ _ _ _ _ h with⟨i,MZ,rfl,h1,h2⟩ |h'
  ·rw[WE]at h1
   refine .inl ⟨ρ.length+i,MZ,(VU.1 h1).1,?_,h1,h2⟩
   rw[Ai (by omega)];omega
  ·by_cases hl:l∈ρ
   ·obtain⟨i,hi⟩:=Xm hl
    have x5:i<ρ.length:=(VU.1 hi).1
    rw[Fo ρ m1 m hn Zar (by omega) i l hi]at h'
    rw[VT (show i<m1.length by omega)]at h'
    simp only[Wr,V1]at h'
    obtain⟨MZ,h1,h2⟩:=Ww.1 h'
    exact .inl ⟨i,MZ,by omega,Hm hi,by rw[VT (show i<m1.length by omega),h1],h2.symm⟩
   ·rw[Db ρ m1 m l hl]at h'
    refine .inr ⟨hl,?_,h'⟩
    rintro⟨i,hi,rfl⟩
    have:=yD hi (lU hk h')
    obtain⟨a,ha,ea⟩:=qC this
    rw[ea]at hl
    exact hl (VW ha)
 have zl:∀{i} (hi:i<m1.length) (h:∃j,j<m1.length∧sig ρ ν j=sig ρ ν i),X7 h=i:=fun {i} hi h=>Hl (Xt h).1 hi (Xt h).2
 have I6:∀{l B},β2 l=some B→tc m2 l=true∧((∃i,i<m1.length∧sig ρ ν i=l∧E'.β i=some B)∨((¬ ∃i,i<m1.length∧sig ρ ν i=l)∧E.β l=some B)):=by
  intro l B h
  simp only[β2]at h
  split at h
  ·rename_i sn
   refine⟨sn,?_⟩
   split at h
   ·rename_i hex
    exact .inl ⟨X7 hex,(Xt hex).1,(Xt hex).2,h⟩
   ·rename_i hex
    exact .inr ⟨hex,h⟩
  ·cases h
 have EY:∀b,b<w.heap.size→¬nL β b→w'.heap[b]?=w.heap[b]?:=fun b hb hn=>ik.up.block b hb hn
 have yA:∀b,nL β b→∃l B,l∈ρ∧E.β l=some B∧B.z=false∧B.b=b:=by
  rintro b ⟨l,B,hB,hz,rfl⟩
  obtain⟨h1,h2⟩:=Ed hB
  obtain⟨a,ha,ea⟩:=qC h1
  exact⟨a,B,VW ha,by rw[←ea];exact h2,hz,rfl⟩
 have ZcS:∀b,S2 b→E'.S b:=fun b hb=>by
  simp only[S2]at hb
  split at hb
  ·exact hSS b (Tc b hb)
  ·exact hb
 have ZcR:∀b,S2 b→E.S b∨w.heap.size≤b∨nL β b:=fun b hb=>by
  simp only[S2]at hb
  split at hb
  ·exact .inl hb
  ·rename_i hf
   rcases hSn b hb with h|h|h
   ·rw[D4 (by simpa using hf)]at h;exact .inl h
   ·exact .inr (.inl h)
   ·exact .inr (.inr h)
 have Ru:∀b,nL β b→nL E.β b:=fun b ho=>by
  obtain⟨l,B,_,hB,hz,rfl⟩:=yA b ho
  exact⟨l,B,hB,hz,rfl⟩
 have hSE:∀b,E.S b→S2 b:=fun b hb=>by
  simp only[S2]
  split
  ·exact hb
  ·exact hSS b (Tc b hb)
 have hx:Ext w w' E E2:=by
  refine⟨hSE,fun b o hb=>cell_of_heap (EY b (hk.sz b hb) fun ho=>?_),fun l B hl hB=>?_,fun l hl=>.inl hl,fun b hb=>(ZcR b hb).imp id fun h=>h.imp id (Ru b),fun b ho=>?_,ik.up.size,fun b q hq=>⟨.inl hq,EY b (hk.sz b (hk.ow b q hq).1) fun ho=>(by obtain⟨l,B,_,hB,hz,rfl⟩:=yA b ho;exact(hk.own l B hB hz).2.2 (hk.ow _ q hq).1)⟩,fun b q hq=>(by rcases hq with h|⟨_,h⟩;exact .inl h;exact(Zds b q h).imp id fun h=>h.imp id (Ru b))⟩
  ·obtain⟨l,B,_,hB,hz,rfl⟩:=yA b ho
   exact(hk.own l B hB hz).2.2 hb
  ·rcases(I6 hB).2 with⟨i,hi,rfl,kL⟩ |⟨_,kL⟩
   ·have bF:=yD hi hl
    obtain⟨h1,h2⟩:=Ed (Zfj i B (by omega) kL)
    exact h2
   ·exact kL
  ·obtain⟨l,B,hB,hz,rfl⟩:=ho
   rcases(I6 hB).2 with⟨i,hi,_,kL⟩ |⟨_,kL⟩
   ·rcases(ik.own i B kL hz).1 with h|h
    ·exact .inl (Ru _ h)
    ·exact .inr h
   ·exact .inl ⟨l,B,kL,hz,rfl⟩
 have Zdm:∀l B,E'.used l→E2.β (sig ρ ν l)=some B→E'.β l=some B:=by
  intro l B hl hB
  rcases(I6 hB).2 with⟨i,hi,he,kL⟩ |⟨uQ,_⟩
  ·rw[←Hl hi (Uu hl) he];exact kL
  ·exact absurd ⟨l,Uu hl,rfl⟩ uQ
 have Zao:∀p x,(flat=true→HE p=true)→fA w' E'.S p x→fA w' E2.S p x:=by
  intro p x hp h
  cases hf:flat with
  |true=>exact h.flat (hp hf)
  |false=>exact h.all fun b hb=>by simp only[E2,S2,hf];exact hb
 have Zdd:∀b q q',E.ω b q→E'.ω b q'→q'=q:=fun b q q' h h'=>by
  rcases Zds b q' h' with h1|h1|h1
  ·exact(hk.ow b q h).2 q' h1
  ·have:=hk.sz b (hk.ow b q h).1;omega
  ·obtain⟨l,B,_,hB,hz,rfl⟩:=yA b h1
   exact absurd (hk.ow _ q h).1 (hk.own l B hB hz).2.2
 have how:∀b q,E2.ω b q→E2.S b∧∀q',E2.ω b q'→q'=q:=fun b q hq=>by
  rcases hq with h|⟨hf,h⟩
  ·refine⟨hSE b (hk.ow b q h).1,fun q' Uw=>?_⟩
   rcases Uw with h'|⟨_,h'⟩
   ·exact(hk.ow b q h).2 q' h'
   ·exact Zdd b q q' h h'
  ·refine⟨by simp only[E2,S2,hf];exact(ik.ow b q h).1,fun q' Uw=>?_⟩
   rcases Uw with h'|⟨_,h'⟩
   ·exact(Zdd b q' q h' h).symm
   ·exact(ik.ow b q h).2 q' h'
 refine⟨v,E2,rfl,⟨?_,fun b hb=>ik.sz b (ZcS b hb),fun l B hB hz=>?_,fun l l' B B' hB kL hz tT e=>?_,fun l hl=>?_,fun l B hB=>?_,fun l mb AB=>?_,fun l B hB=>tW.1 (I6 hB).1,hk.Tm,how⟩,hx,
  Su (flat:=flat) Zdm (fun l hl=>.inr ⟨l,hl,rfl⟩) Zao sU hr,fun l hl=>?_⟩
 ·refine hk.up.trans ik.up fun b hb ho=>?_
  obtain⟨l,B,_,hB,hz,rfl⟩:=yA b ho
  rcases(hk.own l B hB hz).1 with h|h
  ·exact h
  ·omega
 ·rcases(I6 hB).2 with⟨i,hi,rfl,kL⟩ |⟨uQ,kL⟩
  ·obtain⟨h1,h2,h3⟩:=ik.own i B kL hz
   refine⟨?_,h2,fun hS=>h3 (ZcS _ hS)⟩
   rcases h1 with h1|h1
   ·obtain⟨l,B1,_,u0,Ks,e1⟩:=yA _ h1
    rw[←e1];exact(hk.own l B1 u0 Ks).1
   ·exact .inr (by have:=hk.up.size;omega)
  ·obtain⟨h1,h2,h3⟩:=hk.own l B kL hz
   refine⟨h1,by have:=ik.up.size;omega,fun hS=>?_⟩
   rcases ZcR _ hS with h|h|h
   ·exact h3 h
   ·omega
   ·obtain⟨l3,B3,hl3,hB3,hz3,e3⟩:=yA _ h
    have:=hk.inj l3 l B3 B hB3 kL hz3 hz e3
    subst this
    obtain⟨j,hj⟩:=Xm hl3
    have xy:j<ρ.length:=(VU.1 hj).1
    exact uQ ⟨j,by omega,Hm hj⟩
 ·have Zai:∀{i l2 B1 B2},i<m1.length→E'.β i=some B1→(¬ ∃j,j<m1.length∧sig ρ ν j=l2)→E.β l2=some B2→B1.z=false→B2.z=false→B1.b=B2.b→False:=by
   intro i l2 B1 B2 hi u0 uQ hB2 Ks Ov e
   rcases(ik.own i B1 u0 Ks).1 with h|h
   ·obtain⟨l3,B3,hl3,hB3,hz3,e3⟩:=yA _ h
    have:=hk.inj l3 l2 B3 B2 hB3 hB2 hz3 Ov (e3.trans e)
    subst this
    obtain⟨j,hj⟩:=Xm hl3
    have xy:j<ρ.length:=(VU.1 hj).1
    exact uQ ⟨j,by omega,Hm hj⟩
   ·have:=(hk.own l2 B2 hB2 Ov).2.1
    omega
  rcases(I6 hB).2 with⟨i,hi,rfl,h1⟩ |⟨uQ,h1⟩<;>rcases(I6 kL).2 with⟨i',lV,rfl,h2⟩ |⟨Rr,h2⟩
  ·rw[ik.inj i i' B B' h1 h2 hz tT e]
  ·exact(Zai hi h1 Rr h2 hz tT e).elim
  ·exact(Zai lV h2 uQ h1 tT hz e.symm).elim
  ·exact hk.inj l l' B B' h1 h2 hz tT e
 ·obtain⟨g1,g2⟩:=xO (σ:=sig ρ ν) ν (m1.drop ρ.length) (kC (sig ρ ν) ρ m1 m)
  rw[Fp]at g1
  show l<(iX (sig ρ ν) ν (m1.drop ρ.length) (kC (sig ρ ν) ρ m1 m)).length
  rcases hl with hl|⟨i,hi,rfl⟩
  ·have:=hk.used l hl;omega
  ·have lV:=Uu hi
   by_cases h:i<ρ.length
   ·obtain⟨a,ha,ea⟩:=qC h
    rw[ea]
    have:=Zar a (VW ha)
    omega
   ·rw[Ai h]
    exact g2 _ (by simp;omega)
 ·rcases(I6 hB).2 with⟨i,hi,rfl,h1⟩ |⟨uQ,h1⟩
  ·exact .inr ⟨i,ik.bu i B h1,rfl⟩
  ·exact .inl (hk.bu l B h1)
 ·have sn:tc m2 l=true:=tW.2 ⟨mb,AB⟩
  rcases CC AB with⟨i,MZ,hi,rfl,h1,rfl⟩ |⟨hl,uQ,h1⟩
  ·obtain⟨B,hB,hb⟩:=ik.mem i MZ h1
   have hex:∃j,j<m1.length∧sig ρ ν j=sig ρ ν i:=⟨i,hi,rfl⟩
   refine⟨B,?_,hb.renamed (flat:=flat) (Kq MZ (VW h1)) Zdm (fun l hl=>.inr ⟨l,hl,rfl⟩) Zao fun hf b q hq=>.inr ⟨hf,hq⟩⟩
   simp only[E2,β2,sn,if_true,hex,dif_pos]
   rw[zl hi]
   exact hB
  ·obtain⟨B,hB,hb⟩:=hk.mem l mb h1
   refine⟨B,by simp only[E2,β2,sn,if_true];rw[dif_neg uQ];exact hB,hb.ext hx fun hz=>EY _ (hk.own l B hB hz).2.1 fun ho=>?_⟩
   obtain⟨l3,B3,hl3,hB3,hz3,e3⟩:=yA _ ho
   exact hl (hk.inj l3 l B3 B hB3 hB hz3 hz e3▸hl3)
 ·rcases hl with hl|⟨i,hi,rfl⟩
  ·exact .inl hl
  ·have lV:=Uu hi
   by_cases h:i<ρ.length
   ·obtain⟨a,ha,ea⟩:=qC h
    rw[ea]
    exact .inl (UC a (VW ha))
   ·rw[Ai h]
    exact .inr ⟨by omega,by omega⟩
def CL:PV→Bool
 |.ag cs=>cs.all qE
 |.tu _=>false
 |p=>qE p
def pT(P:Program)(io:Bool)(wd ν:Nat)(f:FuncId)(ps:List PV)(m:Mem)(K:PV→Mem→Prop):Prop:=
 (∃r m1,rU m ps (fun qs=>iZ P f qs [] r m1)∧m1.length≤wd∧(∀mb,some mb∈m1→∀cs∈mb.es,∀p∈cs,cE true p)∧ln true r∧K (Ad (sig [] ν) r) (iX (sig [] ν) ν m1 m))∨
 ∃(ρ:List Nat) (m0:Mem) (qs:List PV) (r:PV) (m1:Mem),(io=true∨ρ=[])∧iZ P f qs m0 r m1∧m0.length≤m1.length∧m1.length-m0.length≤wd∧ps=qs.map (uF (sig ρ ν))∧(∀q∈qs,kb false q∧yR m0.length q=true)∧ρ.Nodup∧oZ (sig ρ ν) m m0.length ρ m0∧
  (∀mb,some mb∈m1→∀cs∈mb.es,∀p∈cs,cE false p)∧ln false r∧K (Ad (sig ρ ν) r) (iX (sig ρ ν) ν (m1.drop ρ.length) (kC (sig ρ ν) ρ m1 m))
theorem Ju(hk:Ok w0 O E w m){io:Bool}{wd ν:Nat}(vz:∀i,i<wd→¬E.used (ν+i)){f:FuncId}{ps:List PV}{vs:Array Value}(hl:vs.size=ps.length)(hr:∀(j:Nat) (p:PV) (x:Value),ps[j]?=some p→vs[j]?=some x→dL w E p x){K:PV→Mem→Prop}(h:pT P io wd ν f ps m K):
 ∃r m',K r m'∧Calls P f vs w fun e w'=>∃v E',e=.returned v∧Ok w0 O E' w' m'∧Ext w w' E E'∧dL w' E' r v∧∀l,E'.used l→E.used l∨(ν≤l∧l<ν+wd):=by
 rcases h with⟨r,m1,hs,I5,Kq,KZ,hK⟩ |⟨ρ,m0,qs,r,m1,_,hc,hle,I5,CG,hqs,hn,uC,Kq,KZ,hK⟩
 ·refine⟨_,_,hK,?_⟩
  obtain⟨ds,hc,Ri,hd⟩:=Fx hk ps vs.toList _ (by simpa using hl) (fun j p x hp hx=>hr j p x hp (by simpa using hx)) hs
  have Bu:∀b,Qb E b→b<w.heap.size:=by
   rintro b (h|⟨l,B,hB,hz,rfl⟩)
   ·exact hk.sz b h
   ·exact(hk.own l B hB hz).2.1
  refine(Ih (ρ:=[]) (flat:=true) hk hc (fun i hi=>vz i (by simp at hi;omega)) (WV _) (by rw[hl,Ri]) (fun β _ i p hp=>?_) List.nodup_nil trivial (fun b hb=>.inl hb) (fun h=>by cases h) (fun _=>rfl) Bu Kq KZ).mono ?_
  ·have hi:i<vs.size:=by rw[hl,←Ri];exact(VU.1 hp).1
   exact⟨vs[i],V9 hi,hd i p _ hp (by simp[V9 hi]) _ _ _⟩
  ·rintro e w' ⟨v,E2,he,h1,h2,h3,h4⟩
   exact⟨v,E2,he,h1,h2,h3,fun l hl=>(h4 l hl).imp id fun h=>⟨h.1,by have:=h.2;simp at this;omega⟩⟩
 ·refine⟨_,_,hK,?_⟩
  have hql:vs.size=qs.length:=by rw[hl,CG,Wg]
  refine(Ih (ρ:=ρ) (flat:=false) (S:=E.S) hk hc (fun i hi=>vz i (by omega)) hle hql (fun β xF i p hp=>?_) hn uC (fun b hb=>hb) (fun _=>rfl) (fun h=>by cases h) hk.sz Kq KZ).mono ?_
  ·have hi:i<vs.size:=by rw[hql];exact(VU.1 hp).1
   have hg:=hqs p (VW hp)
   exact⟨vs[i],V9 hi,VQ xF (fun b hb=>hb) (hr i (uF (sig ρ ν) p) _ (by rw[CG];simp[hp]) (V9 hi)) hg.1 hg.2⟩
  ·rintro e w' ⟨v,E2,he,h1,h2,h3,h4⟩
   exact⟨v,E2,he,h1,h2,h3,fun l hl=>(h4 l hl).imp id fun h=>⟨h.1,by have:=h.2;omega⟩⟩
end
end Go.Proofs.YtbalgkakkoocjaaGreat
namespace Go.Proofs.YtbalgkakkoocjaaGreat
set_option maxRecDepth 10000
open Go.RowKit
variable {K:PV→Mem→Prop}{T:TypeId}{a:Act}{b io:Bool}{d:Option Tmp}{f:FuncId}{l s wd ν:Nat}{ops:Array Oper}{p:PV}{ps:List PV}{q:Nat×Option MB}{tm:Array Value}
def xH (P : Program) (f : FuncId) : Prop := ∃ fn, P.funcs[f]? = some fn ∧ fn.body.isSome = true ∧ (fn.name == "runtime.NumGoroutine") = false
def iW(P:Program)(io:Bool)(wd ν:Nat)(o:Op)(t:List PV)(m:Mem)(K:PV→Mem→Prop):Prop:=
 match o with
 |.alloc T=>zU ν m T (pz P T) K
 |.box T x=>zU ν m T (pc (fX t x)) K
 |.buildSlice T n ps=>mR P ν m T n (ps.toList.map fun q=>(q.1,fX t q.2)) K
 |.makeSlice T l c=>vK P ν m T (fX t l) (fX t c) K
 |.store T a x=>vL P m T (fX t a) (fX t x) K
 |.call c=>match c.callee with
  |.builtin .append=>match c.args.toList,c.argTypes.toList with
   | [s,x],[T,T']=>T=T'∧fZ P ν m T (fX t s) (fX t x) K
   |_,_=>False
  |.value (.func f)=>xH P f∧pT P io wd ν f (c.args.toList.map (fX t)) m K
  |.value (.tmp i)=>match t.getD i .un with
   |.fn f cs=>(∀c∈cs,qQ c=true)∧xH P f∧pT P io wd ν f (c.args.toList.map (fX t)++cs) m K
   |_=>False
  |_=>pO P o t m fun p=>K p m
 |_=>pO P o t m fun p=>K p m
def gate(c:Bool)(y n:Prop):Prop:=(c=true→y)∧(c=false→n)
def je(t:List PV)(d:Option Tmp)(p:PV):List PV:=
 match d with
 |some d=>t.set d p
 |none=>t
def sa(P:Program)(ops:Array Oper)(K:List PV→Mem→Prop):List Oper→List PV→Mem→Prop
 | [],t,m=>K t m
 |o::rest,t,m=>match o.guard with
  |none=>iW P true 16 m.length o.op t m fun p m'=>sa P ops K rest (je t o.dst p) m'
  |some (j,b)=>match(ops[j]?).bind (·.dst)with
   |none=>sa P ops K rest (je t o.dst .ud) m
   |some d=>match t.getD d .un,b with
    |.v (.bool c),true=>gate c (iW P true 16 m.length o.op (t.set d (.v (.bool true))) m fun p m'=>sa P ops K rest (je (t.set d (.v (.bool true))) o.dst p) m') (sa P ops K rest (je (t.set d (.v (.bool false))) o.dst .ud) m)
    |.v (.bool c),false=>gate c (sa P ops K rest (je (t.set d (.v (.bool true))) o.dst .ud) m) (iW P true 16 m.length o.op (t.set d (.v (.bool false))) m fun p m'=>sa P ops K rest (je (t.set d (.v (.bool false))) o.dst p) m')
    |.ud,_=>sa P ops K rest (je t o.dst .ud) m
    |_,_=>False
section
variable {w:World} {O:Nat→Prop} {E:Env} {w0:World} {m:Mem} {P:Program}
def HG(P:Program)(w0:World)(O:Nat→Prop)(E:Env)(w:World)(wd ν:Nat)(a:Act)(o:Oper)(p:PV)(m':Mem):Prop:=
 ∀(K:Act→World→Prop) (Q:Exit→Act→World→Prop),(∀x w' E',Ok w0 O E' w' m'→Ext w w' E E'→dL w' E' p x→(∀l,E'.used l→E.used l∨(ν≤l∧l<ν+wd))→K (a.put o.dst x) w')→o.wp P a w K Q
theorem yv(I5:0<wd){o:Oper}{s:Sem Value}{m':Mem}(he:execOp a.eval o=do pure (Next.value (←s)))(h:u9 P w0 O E w ν s p m'):HG P w0 O E w wd ν a o p m':=by
 obtain⟨x,w',E',jh,h1,h2,h3,h4⟩:=h
 intro K Q hK
 unfold Oper.wp
 rw[he,Nl jh]
 exact hK x w' E' h1 h2 h3 fun l hl=>(h4 l hl).imp id fun h=>by omega
theorem Uf(hk:Ok w0 O E w m){o:Oper}(h:Kx P E w a o p):HG P w0 O E w wd ν a o p m:=by
 obtain⟨x,jh,h3⟩:=h
 intro K Q hK
 unfold Oper.wp
 rw[jh]
 exact hK x w E hk (Ext.refl w E) h3 fun l hl=>.inl hl
theorem Cx (hk : Ok w0 O E w m) (vz : ∀ i, i < wd → ¬ E.used (ν + i)) {t : List PV} {o : Oper} {vs : Array Value} (hf : xH P f) (jh : ∀ fn, P.funcs[f]? = some fn → fn.body.isSome = true → (fn.name == "runtime.NumGoroutine") = false → (execOp a.eval o).run P w = .ok (.enter f vs) w)
 (hl:vs.size=ps.length) (hr:∀(j:Nat) (p:PV) (x:Value),ps[j]?=some p→vs[j]?=some x→dL w E p x) (h:pT P io wd ν f ps m K):∃p m',K p m'∧HG P w0 O E w wd ν a o p m':=by
 obtain⟨fn,hf,CB,I2⟩:=hf
 obtain⟨p,m',hK,ZcV⟩:=Ju (P:=P) hk vz hl hr h
 refine⟨p,m',hK,fun K Q hKK=>?_⟩
 unfold Oper.wp
 rw[jh fn hf CB I2,Oper.upon_enter]
 refine ZcV.mono ?_
 rintro e w' ⟨v,E',rfl,h1,h2,h3,h4⟩
 exact hKK v w' E' h1 h2 h3 h4
theorem H8{t:List PV}(ev:∀o:Operand,dL w E (fX t o) (a.eval o))(args:Array Operand)(j:Nat)(p:PV)(x:Value)(hp:(args.toList.map (fX t))[j]?=some p)(hx:(args.map a.eval)[j]?=some x):dL w E p x:=by
 rw[Wj]at hp
 rw[X6]at hx
 cases hq:args[j]? with
 |none=>simp[hq]at hx
 |some q=>
  rw[Wh,hq]at hp
  rw[hq]at hx
  simp only[Wr,V1]at hp hx
  rw[←hp,←hx]
  exact ev q
theorem C7(hk:Ok w0 O E w m)(I5:0<wd)(vz:∀i,i<wd→¬E.used (ν+i)){t:List PV}(ht:rE w E t a.tmps){o:Oper}(h:iW P io wd ν o.op t m K):∃p m',K p m'∧HG P w0 O E w wd ν a o p m':=by
 have ev:=yt ht
 have Rz:¬E.used ν:=vz 0 I5
 have red:pO P o.op t m (fun p=>K p m)→∃p m',K p m'∧HG P w0 O E w wd ν a o p m':=fun h=>by
  obtain⟨p,hK,hg⟩:=LP hk ht h
  exact⟨p,m,hK,Uf hk hg⟩
 unfold iW at h
 split at h
 ·rename_i T ho
  obtain⟨p,m',hK,hg⟩:=GK (P:=P) hk Rz h
  exact⟨p,m',hK,yv I5 (by simp only[execOp,ho]) hg⟩
 ·rename_i T x ho
  obtain⟨p,m',hK,hg⟩:=Lr (P:=P) hk Rz (ev x) h
  exact⟨p,m',hK,yv I5 (by simp only[execOp,ho]) hg⟩
 ·rename_i T n ps ho
  obtain⟨p,m',hK,hg⟩:=yV (P:=P) hk Rz (vs:=ps.map fun(i,x)=>(i,a.eval x)) (by simp) (fun j i p hj=>by
   rw[Wj]at hj
   cases hq:ps.toList[j]? with
   |none=>rw[hq]at hj;cases hj
   |some q=>
    rw[hq]at hj
    simp only[Wr,V1,Prod.mk.injEq]at hj
    obtain⟨rfl,rfl⟩:=hj
    rw[Wh]at hq
    exact⟨a.eval q.2,by simp[hq],ev q.2⟩) h
  exact⟨p,m',hK,yv I5 (by simp only[execOp,ho]) hg⟩
 ·rename_i T l c ho
  obtain⟨p,m',hK,hg⟩:=Jx (P:=P) hk Rz (ev l) (ev c) h
  exact⟨p,m',hK,yv I5 (by simp only[execOp,ho]) hg⟩
 ·rename_i T x y ho
  obtain⟨m',hK,w',jh,h1,h2⟩:=GV (P:=P) hk (ev x) (ev y) h
  refine⟨_,m',hK,fun K Q hKK=>?_⟩
  unfold Oper.wp
  simp only[execOp,ho,Sem.run_bind,jh,Result.andThen_ok,Sem.run_pure]
  exact hKK undef w' E h1 h2 (.c .ud) fun l hl=>.inl hl
 ·rename_i c ho
  split at h
  ·rename_i hc
   split at h
   ·rename_i s x T T' hx hT
    obtain⟨rfl,h⟩:=h
    obtain⟨callee,args,argTypes⟩:=c
    have ha:=vZ hx
    have hTs:=vZ hT
    simp only at hc ha hTs
    subst hc ha hTs
    obtain⟨p,m',hK,hg⟩:=Ej (P:=P) (ty:=o.type) hk Rz (ev s) (ev x) h
    refine⟨p,m',hK,yv I5 ?_ hg⟩
    simp[execOp,ho,resolve,invoke,builtin]
   ·exact h.elim
  ·rename_i f hc
   obtain⟨hf,h⟩:=h
   obtain⟨callee,args,argTypes⟩:=c
   simp only at hc h
   subst hc
   refine Cx hk vz (t:=t) (vs:=args.map a.eval) hf (fun fn hf CB I2=>?_) (by simp) (H8 ev args) h
   have K1 : (fn.name = "runtime.NumGoroutine") = False := by simpa using I2
   have Za7:(fn.body=none)=False:=by
    simp only[eq_iff_iff,iff_false]
    intro hb;rw[hb]at CB;cases CB
   simp[execOp,ho,resolve,invoke,Act.eval,callFunc,Deferred.ofValue,hf,K1,Za7]
  ·rename_i i hc
   split at h
   ·rename_i f cs hti
    obtain⟨_,hf,h⟩:=h
    obtain⟨callee,args,argTypes⟩:=c
    simp only at hc h
    subst hc
    have hv:=ev (.tmp i)
    simp only[fX,hti]at hv
    obtain⟨us,Uy,hul,hur⟩:=hv.Ge
    refine Cx hk vz (t:=t) (vs:=args.map a.eval++us) hf (fun fn hf CB I2=>?_) (by simp[hul]) (fun j p x hp hx=>?_) h
    ·have K1 : (fn.name = "runtime.NumGoroutine") = False := by simpa using I2
     have Za7:(fn.body=none)=False:=by
      simp only[eq_iff_iff,iff_false]
      intro hb;rw[hb]at CB;cases CB
     simp[execOp,ho,resolve,invoke,Uy,callFunc,Deferred.ofValue,hf,K1,Za7]
    ·have Uj:(args.toList.map (fX t)).length=args.size:=by simp
     rcases WB j args.size with hj|hj
     ·rw[Wd (by rw[Uj];exact hj)]at hp
      rw[Array.getElem?_append_left (by simpa using hj)]at hx
      exact H8 ev args j p x hp hx
     ·rw[We (by rw[Uj];exact hj)]at hp
      rw[Array.getElem?_append_right (by simpa using hj)]at hx
      refine hur _ p x (by rw[Uj]at hp;exact hp) (by simpa using hx)
   ·exact h.elim
  ·exact red h
 ·exact red h
theorem rE.ext{w':World}{E':Env}{t:List PV}{tm:Array Value}(h:rE w E t tm)(hx:Ext w w' E E'):rE w' E' t tm:=⟨h.1,fun i p hp=>(h.2 i p hp).ext hx⟩
theorem rE.put{t:List PV}{a:Act}(h:rE w E t a.tmps){p:PV}{x:Value}(hp:dL w E p x)(d:Option Tmp):rE w E (je t d p) (a.put d x).tmps:=by
 cases d with
 |none=>exact h
 |some d=>
  refine⟨by simp[Act.put,je,h.1],fun i q hq=>?_⟩
  simp only[je]at hq
  simp only[Act.put]
  by_cases e:d=i
  ·subst e
   have hd:d<t.length:=by have:=(VU.1 hq).1;simpa using this
   rw[Wl hd]at hq
   cases hq
   have:(a.tmps.setIfInBounds d x).getD d undef=x:=by simp[Xw,h.1,hd]
   rw[this];exact hp
  ·rw[Wt e]at hq
   have:(a.tmps.setIfInBounds d x).getD i undef=a.tmps.getD i undef:=by
    rw[WQ,WQ,Array.getElem?_setIfInBounds_ne e]
   rw[this];exact h.2 i q hq
theorem rE.bool{t:List PV}{tm:Array Value}(h:rE w E t tm){d:Nat}{c:Bool}(hc:t.getD d .un=.v (.bool c)):rE w E (t.set d (.v (.bool c))) tm:=by
 refine⟨by simp[h.1],fun i q hq=>?_⟩
 by_cases e:d=i
 ·subst e
  have hd:d<t.length:=by have:=(VU.1 hq).1;simpa using this
  rw[Wl hd]at hq
  cases hq
  refine h.2 d _ ?_
  rw[←hc]
  simp[W0,VT hd]
 ·rw[Wt e]at hq
  exact h.2 i q hq
theorem Cy{o:Oper}(h:o.guard=none)(y:Nat→Option Bool):Region.wanted o y=true:=by simp[Region.wanted,h]
theorem IU{o:Oper}{j:Nat}(h:o.guard=some (j,b))(hd:(ops[j]?).bind (·.dst)=none)(tm:Array Value):Region.wanted o (yielded ops tm)=false:=by
 simp[Region.wanted,h,yielded,hd]
theorem uB{o:Oper}{j d:Nat}{b c:Bool}(h:o.guard=some (j,b))(hd:(ops[j]?).bind (·.dst)=some d){t:List PV}(ht:rE w E t tm)(hc:t.getD d .un=.v (.bool c)):Region.wanted o (yielded ops tm)=(c==b):=by
 have bF:d<t.length:=by
  rcases WB d t.length with h|h
  ·exact h
  ·simp[W0,Wy h]at hc
 have sU:=ht.2 d _ (VT bF)
 have hda:d<tm.size:=by rw[ht.1];exact bF
 have e1:tm.getD d undef=tm[d]:=by simp[Xw,hda]
 have e2:t.getD d .un=t[d]:=by simp[W0,VT bF]
 rw[e1,←e2,hc]at sU
 have:=sU.iG.1
 simp only[Region.wanted,h,yielded,hd,VS,V9 hda,this]
 cases c<;>cases b<;>rfl
theorem IV{o:Oper}{j d:Nat}(h:o.guard=some (j,b))(hd:(ops[j]?).bind (·.dst)=some d){t:List PV}(ht:rE w E t tm)(hc:t.getD d .un=.ud):Region.wanted o (yielded ops tm)=false:=by
 have bF:d<t.length:=by
  rcases WB d t.length with h|h
  ·exact h
  ·simp[W0,Wy h]at hc
 have sU:=ht.2 d _ (VT bF)
 have hda:d<tm.size:=by rw[ht.1];exact bF
 have e1:tm.getD d undef=tm[d]:=by simp[Xw,hda]
 have e2:t.getD d .un=t[d]:=by simp[W0,VT bF]
 rw[e1,←e2,hc]at sU
 have hu:tm[d]=undef:=by
  generalize tm[d]=z at sU
  cases sU with
  |c h=>cases h;rfl
 simp only[Region.wanted,h,yielded,hd,VS,V9 hda,hu]
 rfl
theorem xM{ops:Array Oper}{K:List PV→Mem→Prop}{Q:Exit→Act→World→Prop}:∀(l:List Oper) (t:List PV) (m:Mem) (E:Env) (w:World) (a:Act),Ok w0 O E w m→a.defers=[]→rE w E t a.tmps→sa P ops K l t m→
 (∀t m E' w' (a':Act),K t m→Ok w0 O E' w' m→Ext w w' E E'→a'.defers=[]→rE w' E' t a'.tmps→Q .normal a' w')→wpList P ops Q l a w
 | [],t,m,E,w,a,hk,hd,ht,h,hQ=>hQ t m E w a h hk (Ext.refl w E) hd ht
 |o::l,t,m,E,w,a,hk,hd,ht,h,hQ=>by
  have hdd:∀x,(a.put o.dst x).defers=[]:=fun x=>by cases o.dst<;>exact hd
  have run:∀t',rE w E t' a.tmps→Region.wanted o (yielded ops a.tmps)=true→iW P true 16 m.length o.op t' m (fun p m'=>sa P ops K l (je t' o.dst p) m')→wpList P ops Q (o::l) a w:=by
   intro t' zJ hw h
   obtain⟨p,m',hK,hg⟩:=C7 hk (by omega) (fun i _ hu=>by have:=hk.used _ hu;omega) zJ h
   unfold wpList
   rw[if_pos hw]
   exact .inl (hg _ _ fun x w' E' h1 h2 h3 _=>xM l _ m' E' w' _ h1 (hdd x) ((zJ.ext h2).put h3 o.dst) hK fun t m E2 w2 a2 k1 k2 k3=>hQ t m E2 w2 a2 k1 k2 (h2.trans k3))
  have pass:∀t',rE w E t' a.tmps→Region.wanted o (yielded ops a.tmps)=false→sa P ops K l (je t' o.dst .ud) m→wpList P ops Q (o::l) a w:=by
   intro t' zJ hw h
   unfold wpList
   rw[hw,if_neg (by simp)]
   exact xM l _ m E w _ hk (hdd _) (zJ.put (.c .ud) o.dst) h hQ
  simp only[sa]at h
  split at h
  ·rename_i hg;exact run t ht (Cy hg _) h
  ·rename_i j b hg
   split at h
   ·rename_i DU;exact pass t ht (IU hg DU _) h
   ·rename_i d DU
    split at h
    ·rename_i c hc
     have hb:=uB hg DU ht hc
     cases c with
     |true=>exact run _ (ht.bool hc) hb (h.1 rfl)
     |false=>exact pass _ (ht.bool hc) hb (h.2 rfl)
    ·rename_i c hc
     have hb:=uB hg DU ht hc
     cases c with
     |true=>exact pass _ (ht.bool hc) hb (h.1 rfl)
     |false=>exact run _ (ht.bool hc) hb (h.2 rfl)
    ·rename_i hc;exact pass t ht (IV hg DU ht hc) h
    ·exact h.elim
end
def oX:PV→List Nat
 |.ms l=>[l]
 |.ss l _ _=>[l]
 |.be l _ _=>[l]
 |_=>[]
def nE:PV→List Nat
 |.fn _ cs=>cs.flatMap oX
 |p=>oX p
def pr:PV→List Nat
 |.ag cs=>cs.flatMap nE
 |p=>nE p
def ja:PV→List Nat
 |.tu vs=>vs.flatMap pr
 |p=>pr p
def opM:Op→Bool
 |.move _|.assign _|.extract ..=>false
 |_=>true
def opR(o:Op)(t:List PV):List Nat:=match opM o with
 |true=>o.operands.toList.flatMap fun x=>ja (fX t x)
 |false=>[]
def PZ(o:Op)(t:List PV)(wd ν:Nat):List Nat:=
 match o with
 |.alloc _=>[ν]
 |.box _ _=>[ν]
 |.buildSlice _ _ _=>[ν]
 |.makeSlice _ _ _=>[ν]
 |.store _ a _=>ja (fX t a)
 |.call c=>match c.callee with
  |.builtin .append=>ν::(c.args.toList.take 1).flatMap fun x=>ja (fX t x)
  |.builtin _=>[]
  |_=>Yp ν wd
 |_=>[]
abbrev S8:=List (Nat×Option MB)
def qL(m:Mem)(q:Nat×Option MB):Mem:=(m++WA (q.1+1-m.length) none).set q.1 q.2
def app(u:S8)(m:Mem):Mem:=u.foldl qL m
theorem uo{m:Mem}(h:l<m.length)(x:Option MB):app [(l,x)] m=m.set l x:=by
 simp only[app,WI,WJ,qL]
 rw[show l+1-m.length=0 by omega];simp
def look(m:Mem)(l:Nat):Option MB:=(m[l]?).join
theorem ji{m:Mem}{mb:MB}:look m l=some mb↔m[l]?=some (some mb):=by
 unfold look
 cases h:m[l]? with
 |none=>simp
 |some x=>cases x<;>simp
theorem mh{m:Mem}(K:MB→Prop):live m l K=match look m l with
 |some mb=>K mb
 |none=>False:=by
 unfold look live
 cases h:m[l]? with
 |none=>rfl
 |some x=>cases x<;>rfl
structure Same(o:Op)(t:List PV)(m:Mem)(t2:List PV)(m2:Mem):Prop where
 te:∀x∈o.operands.toList,fX t2 x=fX t x
 me:∀l∈opR o t,look m2 l=look m l
section
variable {P:Program} {m m2:Mem} {t t2:List PV} {o:Op}
theorem Same.refs(h:Same o t m t2 m2)(hm:opM o=true){x:Operand}(hx:x∈o.operands.toList)(hl:l∈ja (fX t x)):look m2 l=look m l:=h.me l (by unfold opR;rw[hm];exact W9.2 ⟨x,hx,hl⟩)
theorem ke(h:look m2 l=look m l)(K:MB→Prop):live m2 l K=live m l K:=by rw[mh,mh,h]
theorem Pk(h:∀l∈ja p,look m2 l=look m l):Kv m2 p=Kv m p:=by
 cases p with
 |be l i o=>
  have e:=h l (by simp[ja,pr,nE,oX])
  have key:∀m:Mem,Kv m (.be l i o)=(look m l).bind fun mb=>(mb.es[i]?).map (·.drop o):=by
   intro m
   unfold look Kv
   cases h:m[l]? with
   |none=>simp[h]
   |some x=>cases x<;>simp[h]
  rw[key,key,e]
 |_=>rfl
theorem Ly(h:∀l∈ja p,look m2 l=look m l):Ek m2 p=Ek m p:=by
 funext K
 cases p with
 |be l i o=>simp only[Ek,ke (h l (by simp[ja,pr,nE,oX]))]
 |_=>rfl
theorem GN{S D:TypeId}(h:∀l∈ja p,look m2 l=look m l):rK P m2 S D p=rK P m S D p:=by
 funext K
 cases p with
 |ms l=>simp only[rK,ke (h l (by simp[ja,pr,nE,oX]))]
 |_=>rfl
theorem GS{lo hi:Option PV}(h:∀l∈ja p,look m2 l=look m l):kA P m2 T p lo hi=kA P m T p lo hi:=by
 funext K
 cases p with
 |ms l=>
  have e:=ke (m:=m) (m2:=m2) (h l (by simp[ja,pr,nE,oX]))
  cases hu:P.underlying T with
  |none=>simp only[kA,hu]
  |some d=>cases d<;>simp only[kA,hu,e]
 |ss l a b=>
  have e:=ke (m:=m) (m2:=m2) (h l (by simp[ja,pr,nE,oX]))
  cases hu:P.underlying T with
  |none=>simp only[kA,hu]
  |some d=>cases d<;>simp only[kA,hu,e]
 |v x=>
  unfold kA
  cases hu:P.underlying T with
  |none=>rfl
  |some d=>cases d<;>first|rfl|(cases x<;>first|rfl|(rename_i A n c;cases A<;>first|rfl|(cases n<;>first|rfl|(cases c<;>rfl))))
 |_=>
  unfold kA
  cases hu:P.underlying T with
  |none=>rfl
  |some d=>cases d<;>rfl
theorem zV{f:Nat}(h:∀l∈ja p,look m2 l=look m l):kz P m2 T p f=kz P m T p f:=by
 funext K
 cases p with
 |be l i o=>
  have e:=ke (m:=m) (m2:=m2) (h l (by simp[ja,pr,nE,oX]))
  simp only[kz,e]
 |_=>rfl
theorem zX{p q:PV}(h:∀l∈ja p,look m2 l=look m l):cQ P m2 T p q=cQ P m T p q:=by
 funext K
 cases p with
 |ms l=>
  have e:=ke (m:=m) (m2:=m2) (h l (by simp[ja,pr,nE,oX]))
  simp only[cQ,e]
 |ss l a b=>
  have e:=ke (m:=m) (m2:=m2) (h l (by simp[ja,pr,nE,oX]))
  simp only[cQ,e]
 |_=>rfl
theorem Lt(h:∀l∈ja p,look m2 l=look m l):wZ P m2 T p=wZ P m T p:=by
 funext K
 cases p with
 |ms l=>
  have e:=ke (m:=m) (m2:=m2) (h l (by simp[ja,pr,nE,oX]))
  cases hu:P.underlying T with
  |none=>simp only[wZ,hu]
  |some d=>cases d<;>simp only[wZ,hu,e]
 |ss l a b=>
  have e:=ke (m:=m) (m2:=m2) (h l (by simp[ja,pr,nE,oX]))
  cases hu:P.underlying T with
  |none=>simp only[wZ,hu]
  |some d=>cases d<;>simp only[wZ,hu,e]
 |v x=>
  unfold wZ
  cases hu:P.underlying T with
  |none=>rfl
  |some d=>cases d<;>first|rfl|(cases x<;>first|rfl|(rename_i A n c;cases A<;>first|rfl|(cases n<;>first|rfl|(cases c<;>rfl))))
 |_=>
  unfold wZ
  cases hu:P.underlying T with
  |none=>rfl
  |some d=>cases d<;>rfl
theorem J4(h:∀l∈ja p,look m2 l=look m l):px m2 p=px m p:=by
 cases p with
 |ms l=>
  have e:=h l (by simp[ja,pr,nE,oX])
  have key:∀m:Mem,px m (.ms l)=(look m l).map (·.es):=by
   intro m
   unfold look px
   cases h:m[l]? with
   |none=>simp[h]
   |some x=>cases x<;>simp[h]
  rw[key,key,e]
 |ss l a b=>
  have e:=h l (by simp[ja,pr,nE,oX])
  have key:∀m:Mem,px m (.ss l a b)=(look m l).map fun mb=>(mb.es.drop a).take (b-a):=by
   intro m
   unfold look px
   cases h:m[l]? with
   |none=>simp[h]
   |some x=>cases x<;>simp[h]
  rw[key,key,e]
 |v x=>cases x<;>first|rfl|(rename_i A n c;cases A<;>first|rfl|(cases n<;>rfl))
 |_=>rfl
theorem j3(h:∀l∈nE p,look m2 l=look m l):rA m2 p=rA m p:=by
 funext K
 cases p with
 |ms l=>simp only[rA];rw[ke (h l (by simp[nE,oX]))]
 |ss l a b=>simp only[rA];rw[ke (h l (by simp[nE,oX]))]
 |_=>rfl
theorem AT:∀{cs:List PV},(∀l∈cs.flatMap nE,look m2 l=look m l)→sQ m2 cs=sQ m cs
 | [],_=>by funext K;rfl
 |c::cs,h=>by
  funext K
  simp only[sQ]
  rw[j3 fun l hl=>h l (by simp[hl]),AT fun l hl=>h l (by
   rw[XL];exact XB _ hl)]
theorem J1(h:∀l∈ja p,look m2 l=look m l):sR m2 p=sR m p:=by
 funext K
 cases p with
 |ag cs=>simp only[sR];rw[AT fun l hl=>h l hl]
 |tu vs=>rfl
 |v x=>exact congrFun (j3 (p:=.v x) fun l hl=>h l hl) K
 |ud=>exact congrFun (j3 (p:=.ud) fun l hl=>h l hl) K
 |un=>exact congrFun (j3 (p:=.un) fun l hl=>h l hl) K
 |sl es=>exact congrFun (j3 (p:=.sl es) fun l hl=>h l hl) K
 |rp cs=>exact congrFun (j3 (p:=.rp cs) fun l hl=>h l hl) K
 |ms l=>exact congrFun (j3 (p:=.ms l) fun l hl=>h l hl) K
 |ss l a b=>exact congrFun (j3 (p:=.ss l a b) fun l hl=>h l hl) K
 |be l i o=>exact congrFun (j3 (p:=.be l i o) fun l hl=>h l hl) K
 |fn f cs=>exact congrFun (j3 (p:=.fn f cs) fun l hl=>h l hl) K
theorem AS:∀{cs:List PV},(∀l∈cs.flatMap ja,look m2 l=look m l)→rU m2 cs=rU m cs
 | [],_=>by funext K;rfl
 |c::cs,h=>by
  funext K
  simp only[rU]
  rw[J1 fun l hl=>h l (by simp[hl]),AS fun l hl=>h l (by
   rw[XL];exact XB _ hl)]
theorem map_congr{xs:List Operand}(h:∀x∈xs,fX t2 x=fX t x):xs.map (fX t2)=xs.map (fX t):=WZ h
theorem LO(h:Same o t m t2 m2):pO P o t2 m2=pO P o t m:=by
 have hr:=fun(hm:opM o=true) {x:Operand} (hx:x∈o.operands.toList)=>(fun l (hl:l∈ja (fX t x))=>h.refs hm hx hl)
 have ht:=fun {x:Operand} (hx:x∈o.operands.toList)=>h.te x hx
 funext K
 cases o with
 |move x=>simp only[pO];rw[ht (by simp[Op.operands])]
 |assign x=>simp only[pO];rw[ht (by simp[Op.operands])]
 |pick c a b=>simp only[pO];rw[ht (x:=c) (by simp[Op.operands]),ht (x:=a) (by simp[Op.operands]),ht (x:=b) (by simp[Op.operands])]
 |load T x=>simp only[pO];rw[ht (x:=x) (by simp[Op.operands]),Pk (hr rfl (x:=x) (by simp[Op.operands]))]
 |nilCheck x=>simp only[pO];rw[ht (x:=x) (by simp[Op.operands]),Ly (hr rfl (x:=x) (by simp[Op.operands]))]
 |binOp op T x y Ty=>simp only[pO];rw[ht (x:=x) (by simp[Op.operands]),ht (x:=y) (by simp[Op.operands])]
 |unOp op T x=>simp only[pO];rw[ht (x:=x) (by simp[Op.operands])]
 |convert S D x=>simp only[pO];rw[ht (x:=x) (by simp[Op.operands]),GN (hr rfl (x:=x) (by simp[Op.operands]))]
 |makeFunc fn first cs=>
  simp only[pO]
  rw[map_congr fun x hx=>ht (x:=x) (by simp only[Op.operands,X1,WC];exact .inr hx)]
 |slice T x lo hi mx=>
  cases mx with
  |some _=>rfl
  |none=>
   simp only[pO]
   rw[ht (x:=x) (by simp[Op.operands]),GS (hr rfl (x:=x) (by simp[Op.operands]))]
   have e1:lo.map (fX t2)=lo.map (fX t):=by
    cases lo with
    |none=>rfl
    |some z=>simp only[Wr];rw[ht (x:=z) (by simp[Op.operands])]
   have e2:hi.map (fX t2)=hi.map (fX t):=by
    cases hi with
    |none=>rfl
    |some z=>simp only[Wr];rw[ht (x:=z) (by simp[Op.operands])]
   rw[e1,e2]
 |fieldAddr S x f=>simp only[pO];rw[ht (x:=x) (by simp[Op.operands]),zV (hr rfl (x:=x) (by simp[Op.operands]))]
 |field T x f=>simp only[pO];rw[ht (x:=x) (by simp[Op.operands])]
 |indexAddr T x i=>simp only[pO];rw[ht (x:=x) (by simp[Op.operands]),ht (x:=i) (by simp[Op.operands]),zX (hr rfl (x:=x) (by simp[Op.operands]))]
 |index T x i=>simp only[pO];rw[ht (x:=x) (by simp[Op.operands]),ht (x:=i) (by simp[Op.operands])]
 |extract x i=>simp only[pO];rw[ht (x:=x) (by simp[Op.operands])]
 |build T ps=>
  simp only[pO]
  have:(ps.toList.map fun q=>(q.1,fX t2 q.2))=ps.toList.map fun q=>(q.1,fX t q.2):=WZ fun q hq=>by
   rw[ht (x:=q.2) (by simp only[Op.operands];exact X8 hq)]
  rw[this]
 |call c=>
  have ha:∀x∈c.args.toList,x∈(Op.call c).operands.toList:=fun x hx=>by
   simp only[Op.operands,Call.operands,X1,WC];exact .inr hx
  simp only[pO]
  have e:=map_congr (xs:=c.args.toList) fun x hx=>ht (ha x hx)
  split
  ·split
   ·rename_i x T hx hT
    have rQ:x∈c.args.toList:=by rw[hx];simp
    rw[ht (ha x rQ),Lt (hr rfl (ha x rQ))]
   ·rfl
  ·rw[e]
  ·rw[e]
  ·rfl
 |_=>rfl
theorem Sm{K:PV→Prop}(h:pO P o t m K):∃p,K p∧pO P o t m fun p'=>p'=p:=by
 have L:∀{T:TypeId} {cs:Option (List PV)} {K:PV→Prop},rR P T cs K→∃p,K p∧rR P T cs fun p'=>p'=p:=by
  intro T cs K h
  unfold rR at *
  split at h
  ·rename_i d pS hd qF
   split at h
   ·rename_i CA;exact⟨_,h.2,by simp only[CA];exact⟨h.1,trivial⟩⟩
   ·rename_i CA
    split at h
    ·exact⟨_,h,by simp only[CA]⟩
    ·exact h.elim
  ·exact h.elim
 have Lv:∀{l:Nat} {A:MB→Prop},live m l A→∃mb,m[l]?=some (some mb)∧A mb:=fun h=>iy h
 have Lw:∀{l:Nat} {A:MB→Prop} {mb:MB},m[l]?=some (some mb)→A mb→live m l A:=by
  intro l A mb h1 h2
  unfold live
  rw[h1];exact h2
 unfold pO at *
 split at h<;>(try exact h.elim)
 ·exact⟨_,h,rfl⟩
 ·exact⟨_,h,rfl⟩
 ·split at h
  ·rename_i hc;exact⟨_,h,by simp only[hc]⟩
  ·exact h.elim
 ·exact L h
 ·unfold Ek at *
  split at h
  ·rename_i hx
   obtain⟨mb,h1,h2⟩:=Lv h
   exact⟨_,h2,by simp only[hx];exact Lw h1 trivial⟩
  ·rename_i hx;exact⟨_,h,by simp only[hx]⟩
  ·exact h.elim
 ·unfold Jt at *
  split at h
  ·rename_i h1 h2
   unfold GH at *
   split at h
   ·rename_i hr;exact⟨_,h,by simp only[h1,h2,hr]⟩
   ·exact h.elim
  ·rename_i h1 h2
   unfold uV at *
   obtain⟨hg,h⟩:=h
   split at h
   ·rename_i hr1 hr2
    split at h
    ·exact⟨_,h,by simp only[h1,h2,hg,hr1,hr2];exact⟨trivial,trivial⟩⟩
    ·exact⟨_,h,by simp only[h1,h2,hg,hr1,hr2];exact⟨trivial,trivial⟩⟩
    ·exact h.elim
   ·exact h.elim
  ·exact h.elim
 ·unfold pUn at *
  split at h
  ·rename_i h1;exact⟨_,h,by simp only[h1]⟩
  ·rename_i h1;exact⟨_,h,by simp only[h1]⟩
  ·exact h.elim
 ·unfold rK at *
  split at h
  ·rename_i h1
   split at h
   ·rename_i h2 h3
    obtain⟨he,h⟩:=h
    obtain⟨mb,g1,gk,h⟩:=Lv h
    split at h
    ·rename_i hb
     exact⟨_,h,by simp only[h1,h2,h3];exact⟨he,Lw g1 ⟨gk,by simp only[hb]⟩⟩⟩
    ·exact h.elim
   ·exact h.elim
  ·rename_i h0
   have key:∀{S D:TypeId} {x:PV} {K:PV→Prop},CZ P S D x K→∃p,K p∧CZ P S D x fun p'=>p'=p:=by
    intro S D x K h
    unfold CZ at *
    split at h
    ·rename_i h1 h2;exact⟨_,h,by simp only[h1,h2]⟩
    ·rename_i h1 h2;exact⟨_,h,by simp only[h1,h2]⟩
    ·exact h.elim
   obtain⟨p,h1,h2⟩:=key h
   exact⟨p,h1,h2⟩
 ·rename_i fn first cs
  split at h
  ·rename_i hf;exact⟨_,h,by simp only[hf]⟩
  ·exact h.elim
 ·split at h
  ·unfold kA at *
   split at h
   ·rename_i h1 h2
    split at h
    ·rename_i h3 h4
     obtain⟨a,b,c,d⟩:=h
     exact⟨_,d,by simp only[h1,h2,h3,h4];exact⟨a,b,c,trivial⟩⟩
    ·exact h.elim
   ·rename_i h1 h2
    split at h
    ·rename_i h3 h4
     obtain⟨a,b,c,d,e,f⟩:=h
     exact⟨_,f,by simp only[h1,h2,h3,h4];exact⟨a,b,c,d,e,trivial⟩⟩
    ·exact h.elim
   ·rename_i h1 h2
    obtain⟨mb,g1,h⟩:=Lv h
    split at h
    ·rename_i h3 h4
     obtain⟨a,b,c,d,e,f⟩:=h
     exact⟨_,f,by simp only[h1,h2];exact Lw g1 (by simp only[h3,h4];exact⟨a,b,c,d,e,trivial⟩)⟩
    ·exact h.elim
   ·rename_i h1 h2
    obtain⟨mb,g1,h⟩:=Lv h
    split at h
    ·rename_i h3 h4
     obtain⟨a,b,c,d,e,f⟩:=h
     exact⟨_,f,Lw g1 ⟨a,b,c,d,e,rfl⟩⟩
    ·exact h.elim
   ·rename_i h1 h2
    split at h
    ·rename_i h3 h4
     obtain⟨a,b,c,d,e⟩:=h
     exact⟨_,e,by simp only[h1,h2,h3,h4];exact⟨a,b,c,d,trivial⟩⟩
    ·exact h.elim
   ·exact h.elim
  ·exact h.elim
 ·unfold kz at *
  split at h
  ·rename_i h1
   split at h
   ·rename_i h2
    obtain⟨hp,h⟩:=h
    split at h
    ·rename_i h3
     obtain⟨mb,g1,h⟩:=Lv h
     exact⟨_,h,by simp only[h1,h2,h3];exact⟨hp,Lw g1 trivial⟩⟩
    ·rename_i h3;exact⟨_,h,by simp only[h1,h2,h3];exact⟨hp,trivial⟩⟩
    ·exact h.elim
   ·exact h.elim
  ·exact h.elim
 ·unfold vJ at *
  split at h
  ·rename_i h1
   split at h
   ·rename_i h2 h3
    obtain⟨p,h4,h5⟩:=L h
    exact⟨p,h4,h5⟩
   ·exact h.elim
  ·exact h.elim
 ·unfold cQ at *
  split at h
  ·rename_i h1 h2
   split at h
   ·rename_i h3
    obtain⟨a,b,c,d,e⟩:=h
    exact⟨_,e,by simp only[h1,h2,h3];exact⟨a,b,c,d,trivial⟩⟩
   ·rename_i h3
    obtain⟨mb,g1,a,b,c,d⟩:=Lv h
    exact⟨_,d,by simp only[h1,h2,h3];exact Lw g1 ⟨a,b,c,trivial⟩⟩
   ·rename_i h3
    obtain⟨mb,g1,a,b,c,d⟩:=Lv h
    exact⟨_,d,by simp only[h1,h2,h3];exact Lw g1 ⟨a,b,c,trivial⟩⟩
   ·exact h.elim
  ·exact h.elim
 ·unfold sJ at *
  split at h
  ·rename_i h1 h2 h3
   obtain⟨a,b,c⟩:=h
   exact⟨_,c,by simp only[h1,h2,h3];exact⟨a,b,trivial⟩⟩
  ·exact h.elim
 ·unfold Jw at *
  split at h
  ·rename_i h1
   split at h
   ·rename_i h2;exact⟨_,h,by simp only[h1,h2]⟩
   ·exact h.elim
  ·exact h.elim
 ·unfold vI at *
  split at h
  ·rename_i h1
   obtain⟨hp,h⟩:=h
   split at h
   ·rename_i h2
    split at h
    ·rename_i h3;exact⟨_,h,by simp only[h1,h2,h3];exact⟨hp,trivial⟩⟩
    ·exact h.elim
   ·exact h.elim
  ·exact h.elim
 ·split at h
  ·rename_i hc
   split at h
   ·rename_i h1 h2
    unfold wZ at *
    split at h
    ·rename_i h3 h4;exact⟨_,h,by simp only[h3,h4]⟩
    ·rename_i h3 h4;exact⟨_,h,by simp only[h3,h4]⟩
    ·rename_i h3 h4;exact⟨_,h,by simp only[h3,h4]⟩
    ·rename_i h3 h4
     obtain⟨mb,g1,h⟩:=Lv h
     exact⟨_,h,by simp only[h3,h4];exact Lw g1 rfl⟩
    ·rename_i h3 h4
     obtain⟨mb,g1,h⟩:=Lv h
     exact⟨_,h,Lw g1 rfl⟩
    ·exact h.elim
   ·exact h.elim
  ·rename_i hc
   unfold qw at *
   split at h
   ·rename_i h1;exact⟨_,h,by simp only[h1];simp⟩
   ·exact h.elim
  ·rename_i hc
   unfold qw at *
   split at h
   ·rename_i h1;exact⟨_,h,by simp only[h1];simp⟩
   ·exact h.elim
  ·exact h.elim
end
section
variable {P:Program} {m m2:Mem} {t t2:List PV} {o:Op}
def uN(σ:Nat→Nat):Nat→Mem→S8
 |_,[]=>[]
 |ν,x::m1=>(ν,x.map (mU σ))::uN σ (ν+1) m1
theorem pP(σ:Nat→Nat):∀(ν:Nat) (m1 m:Mem),iX σ ν m1 m=app (uN σ ν m1) m
 |ν,[],m=>by unfold iX;rfl
 |ν,some mb::m1,m=>by unfold iX;rw[pP σ (ν+1) m1];rfl
 |ν,none::m1,m=>by unfold iX;rw[pP σ (ν+1) m1];rfl
theorem uO(σ:Nat→Nat):∀(ν:Nat) (m1:Mem) (q:Nat×Option MB),q∈uN σ ν m1→ν≤q.1∧q.1<ν+m1.length
 |ν,[],q,h=>by simp[uN]at h
 |ν,x::m1,q,h=>by
  simp only[uN,V4]at h
  rcases h with rfl|h
  ·simp
  ·have:=uO σ (ν+1) m1 q h
   simp only[List.length_cons];omega
theorem mem_range'{ν k n:Nat}:k∈Yp ν n↔ν≤k∧k<ν+n:=List.mem_range'_1
theorem AM(h:pT P false wd ν f ps m K):
 ∃p u,K p (app u m)∧(∀q∈u,q.1∈Yp ν wd)∧∀m2,(∀l∈ps.flatMap ja,look m2 l=look m l)→pT P false wd ν f ps m2 fun p' m'=>p'=p∧m'=app u m2:=by
 rcases h with⟨r,m1,hs,Uh,Kq,KZ,hK⟩ |⟨ρ,m0,qs,r,m1,Gn,hc,hle,Uh,CG,hqs,hn,uC,Kq,KZ,hK⟩
 ·refine⟨Ad (sig [] ν) r,uN (sig [] ν) ν m1,by rw[←pP];exact hK,fun q hq=>?_,fun m2 AB=>.inl ⟨r,m1,by rw[AS AB];exact hs,Uh,Kq,KZ,rfl,pP _ _ _ _⟩⟩
  rw[mem_range']
  have:=uO _ _ _ q hq
  omega
 ·obtain rfl:ρ=[]:=by simpa using Gn
  have h0:m0=[]:=by
   have:=(sG uC).1
   exact W4.1 this.symm
  subst h0
  simp only[VY,List.drop_zero,kC]at hK
  refine⟨Ad (sig [] ν) r,uN (sig [] ν) ν m1,by rw[←pP];exact hK,fun q hq=>?_,fun m2 AB=>.inr ⟨[],[],qs,r,m1,.inr rfl,hc,hle,Uh,CG,hqs,hn,trivial,Kq,KZ,rfl,?_⟩⟩
  ·rw[mem_range']
   have:=uO _ _ _ q hq
   simp only[VY]at Uh
   omega
  ·simp only[VY,List.drop_zero,kC];exact pP _ _ _ _
theorem LK(h:iW P false wd ν o t m K):
 ∃p u,K p (app u m)∧(∀q∈u,q.1∈PZ o t wd ν)∧∀t2 m2,Same o t m t2 m2→iW P false wd ν o t2 m2 fun p' m'=>p'=p∧m'=app u m2:=by
 have red:∀{K:PV→Prop},pO P o t m K→∃p,K p∧∀t2 m2,Same o t m t2 m2→pO P o t2 m2 fun p'=>p'=p:=by
  intro K h
  obtain⟨p,h1,h2⟩:=Sm h
  exact⟨p,h1,fun t2 m2 hs=>by rw[LO hs];exact h2⟩
 have imp:∀{t2 m2 p},pO P o t2 m2 (fun p'=>p'=p)→pO P o t2 m2 fun p'=>p'=p∧m2=app [] m2:=by
  intro t2 m2 p h
  have:(fun p'=>p'=p∧m2=app [] m2)=fun p'=>p'=p:=by funext p';simp[app]
  rw[this];exact h
 cases o with
 |alloc T=>
  simp only[iW]at *
  unfold zU at *
  split at h
  ·rename_i c cs hz
   exact⟨_,[(ν,some _)],h,by simp[PZ],fun t2 m2 _=>by simp only[hz];exact⟨trivial,rfl⟩⟩
  ·exact h.elim
 |box T x=>
  simp only[iW]at *
  unfold zU at *
  split at h
  ·rename_i c cs hz
   exact⟨_,[(ν,some _)],h,by simp[PZ],fun t2 m2 hs=>by rw[hs.te x (by simp[Op.operands])];simp only[hz];exact⟨trivial,rfl⟩⟩
  ·exact h.elim
 |buildSlice T n ps=>
  simp only[iW]at *
  have e:∀{t2 m2},Same (.buildSlice T n ps) t m t2 m2→(ps.toList.map fun q=>(q.1,fX t2 q.2))=ps.toList.map fun q=>(q.1,fX t q.2):=fun hs=>WZ fun q hq=>by
   rw[hs.te q.2 (by simp only[Op.operands];exact X8 hq)]
  unfold mR at *
  split at h
  ·rename_i e1 hu
   split at h
   ·rename_i zc hz
    obtain⟨h1,h2,h3,h⟩:=h
    split at h
    ·rename_i cs hf
     exact⟨_,[(ν,some _)],h,by simp[PZ],fun t2 m2 hs=>by rw[e hs];simp only[hu,hz,hf];exact⟨h1,h2,h3,trivial,rfl⟩⟩
    ·exact h.elim
   ·exact h.elim
  ·exact h.elim
 |makeSlice T l c=>
  simp only[iW]at *
  unfold vK at *
  split at h
  ·rename_i e n n' hu hl hc
   split at h
   ·rename_i zc hz
    obtain⟨h1,h2,h3,h4,h5,h6,h⟩:=h
    exact⟨_,[(ν,some _)],h,by simp[PZ],fun t2 m2 hs=>by
     rw[hs.te l (by simp[Op.operands]),hs.te c (by simp[Op.operands])]
     simp only[hu,hl,hc,hz];exact⟨h1,h2,h3,h4,h5,h6,trivial,rfl⟩⟩
   ·exact h.elim
  ·exact h.elim
 |store T x y=>
  simp only[iW]at *
  unfold vL at *
  split at h
  ·rename_i l i o qs hx hq
   obtain⟨mb,hm,h⟩:=iy h
   split at h
   ·rename_i cs qF
    obtain⟨h1,h2,h3,h⟩:=h
    have hl:l<m.length:=(VU.1 hm).1
    refine⟨_,[(l,some _)],by rw[uo hl];exact h,by simp[PZ,hx,ja,pr,nE,oX],fun t2 m2 hs=>?_⟩
    have AB:m2[l]?=some (some mb):=ji.1 ((hs.refs rfl (x:=x) (by simp[Op.operands]) (by simp[hx,ja,pr,nE,oX])).trans (ji.2 hm))
    rw[hs.te x (by simp[Op.operands]),hs.te y (by simp[Op.operands])]
    simp only[hx,hq,live,AB,qF]
    exact⟨h1,h2,h3,trivial,(uo (VU.1 AB).1 _).symm⟩
   ·exact h.elim
  ·exact h.elim
 |call c=>
  have ha:∀x∈c.args.toList,x∈(Op.call c).operands.toList:=fun x hx=>by
   simp only[Op.operands,Call.operands,X1,WC];exact .inr hx
  have Oq:∀{t2 m2},Same (.call c) t m t2 m2→c.args.toList.map (fX t2)=c.args.toList.map (fX t):=fun hs=>map_congr fun x hx=>hs.te x (ha x hx)
  have hrefs:∀{t2 m2},Same (.call c) t m t2 m2→∀l∈(c.args.toList.map (fX t)).flatMap ja,look m2 l=look m l:=fun hs l hl=>by
   simp only[W9,WS]at hl
   obtain⟨p,⟨x,hx,rfl⟩,hl⟩:=hl
   exact hs.refs rfl (ha x hx) hl
  simp only[iW]at *
  split at h
  ·rename_i hc
   split at h
   ·rename_i s x T T' hx hT
    obtain⟨hTT,h⟩:=h
    have PT:s∈c.args.toList:=by rw[hx];simp
    have rQ:x∈c.args.toList:=by rw[hx];simp
    have hrw:∀{t2 m2},Same (.call c) t m t2 m2→fX t2 s=fX t s∧fX t2 x=fX t x∧px m2 (fX t x)=px m (fX t x):=fun hs=>⟨hs.te s (ha s PT),hs.te x (ha x rQ),J4 fun l hl=>hs.refs rfl (ha x rQ) hl⟩
    unfold fZ at h
    split at h
    ·rename_i e hu
     split at h
     ·rename_i zc es hz xx
      obtain⟨h1,h2,h3,h⟩:=h
      split at h
      ·rename_i l zo
       obtain⟨mb,hm,g1,g2,g3,g4,h⟩:=iy h
       have hl:l<m.length:=(VU.1 hm).1
       refine⟨_,[(l,none),(ν,some _)],by simp only[app,WI,WJ];rw[show qL m (l,none)=m.set l none from uo hl none];exact h,?_,fun t2 m2 hs=>?_⟩
       ·intro q hq
        simp only[PZ,hc,V4,V7,or_false]at hq⊢
        rcases hq with rfl|rfl
        ·exact .inr (W9.2 ⟨s,by rw[hx];simp,by simp[zo,ja,pr,nE,oX]⟩)
        ·exact .inl rfl
       ·obtain⟨e1,e2,e3⟩:=hrw hs
        have AB:m2[l]?=some (some mb):=ji.1 ((hs.refs rfl (ha s PT) (by simp[zo,ja,pr,nE,oX])).trans (ji.2 hm))
        refine⟨hTT,?_⟩
        unfold fZ
        rw[e1,e2]
        simp only[hu,hz,e3,xx,zo,live,AB]
        refine⟨h1,h2,h3,g1,g2,g3,g4,trivial,?_⟩
        simp only[app,WI,WJ];rw[show qL m2 (l,none)=m2.set l none from uo (VU.1 AB).1 none];rfl
      ·rename_i l a b zo
       obtain⟨h0,h⟩:=h
       obtain⟨mb,hm,g1,g2,g5,g3,g4,h⟩:=iy h
       have hl:l<m.length:=(VU.1 hm).1
       refine⟨_,[(l,none),(ν,some _)],by simp only[app,WI,WJ];rw[show qL m (l,none)=m.set l none from uo hl none];exact h,?_,fun t2 m2 hs=>?_⟩
       ·intro q hq
        simp only[PZ,hc,V4,V7,or_false]at hq⊢
        rcases hq with rfl|rfl
        ·exact .inr (W9.2 ⟨s,by rw[hx];simp,by simp[zo,ja,pr,nE,oX]⟩)
        ·exact .inl rfl
       ·obtain⟨e1,e2,e3⟩:=hrw hs
        have AB:m2[l]?=some (some mb):=ji.1 ((hs.refs rfl (ha s PT) (by simp[zo,ja,pr,nE,oX])).trans (ji.2 hm))
        refine⟨hTT,?_⟩
        unfold fZ
        rw[e1,e2]
        simp only[hu,hz,e3,xx,zo,live,AB]
        refine⟨h1,h2,h3,h0,g1,g2,g5,g3,g4,trivial,?_⟩
        simp only[app,WI,WJ];rw[show qL m2 (l,none)=m2.set l none from uo (VU.1 AB).1 none];rfl
      ·rename_i zo
       obtain⟨g3,g4,h⟩:=h
       refine⟨_,[(ν,some _)],h,by simp[PZ,hc],fun t2 m2 hs=>?_⟩
       obtain⟨e1,e2,e3⟩:=hrw hs
       refine⟨hTT,?_⟩
       unfold fZ
       rw[e1,e2]
       simp only[hu,hz,e3,xx,zo]
       exact⟨h1,h2,h3,g3,g4,trivial,rfl⟩
      ·exact h.elim
     ·exact h.elim
    ·exact h.elim
   ·exact h.elim
  ·rename_i f hc
   obtain⟨hf,h⟩:=h
   obtain⟨p,u,h1,h2,h3⟩:=AM h
   refine⟨p,u,h1,by simp only[PZ,hc];exact h2,fun t2 m2 hs=>⟨hf,?_⟩⟩
   rw[Oq hs]
   exact h3 m2 (hrefs hs)
  ·rename_i i hc
   have hi:Operand.tmp i∈(Op.call c).operands.toList:=by simp[Op.operands,Call.operands,hc]
   split at h
   ·rename_i f cs hti
    obtain⟨hR,hf,h⟩:=h
    obtain⟨p,u,h1,h2,h3⟩:=AM h
    refine⟨p,u,h1,by simp only[PZ,hc];exact h2,fun t2 m2 hs=>?_⟩
    have e1:=hs.te _ hi
    simp only[fX,hti]at e1
    rw[e1,Oq hs]
    refine⟨hR,hf,h3 m2 fun l hl=>?_⟩
    rw[List.flatMap_append,WC]at hl
    rcases hl with hl|hl
    ·exact hrefs hs l hl
    ·have hfn:fX t (.tmp i)=.fn f cs:=hti
     refine hs.refs rfl hi ?_
     rw[hfn]
     simp only[ja,pr,nE]
     obtain⟨c1,u4,hl1⟩:=W9.1 hl
     refine W9.2 ⟨c1,u4,?_⟩
     have hR1:=hR c1 u4
     cases c1<;>first|exact hl1|simp[qQ]at hR1
   ·exact h.elim
  ·obtain⟨p,h1,h2⟩:=red h
   exact⟨p,[],h1,by simp,fun t2 m2 hs=>imp (h2 t2 m2 hs)⟩
 |_=>
  simp only[iW]at *
  obtain⟨p,h1,h2⟩:=red h
  exact⟨p,[],h1,by simp,fun t2 m2 hs=>imp (h2 t2 m2 hs)⟩
end
/-! ZdV. -/
theorem yf(m:Mem)(q:Nat×Option MB)(l:Nat):(qL m q)[l]?=if l=q.1 then some q.2 else if l<m.length then m[l]? else if l<q.1+1 then some none else none:=by
 unfold qL
 by_cases h:l=q.1
 ·subst h
  rw[if_pos rfl,Wl (by simp;omega)]
 ·rw[if_neg h,Wt (fun e=>h e.symm)]
  rcases WB l m.length with h1|h1
  ·rw[if_pos h1,Wd h1]
  ·rw[if_neg (by omega),We h1,XO]
   split
   ·rw[if_pos (by omega)]
   ·rw[if_neg (by omega)]
theorem Qn(m:Mem)(q:Nat×Option MB):(qL m q).length=max m.length (q.1+1):=by simp[qL];omega
theorem NV(m:Mem){q r:Nat×Option MB}(h:q.1≠r.1):qL (qL m q) r=qL (qL m r) q:=by
 apply List.ext_getElem?
 intro l
 simp only[yf,Qn]
 by_cases h1:l=q.1<;>by_cases h2:l=r.1
 ·exact absurd (h1.symm.trans h2) h
 ·subst h1;simp only[h2,if_true,if_false];(repeat' split)<;>first|rfl|(exfalso;omega)
 ·subst h2;simp only[h1,if_true,if_false];(repeat' split)<;>first|rfl|(exfalso;omega)
 ·simp only[h1,h2,if_false]
  (repeat' split)<;>first|rfl|(exfalso;omega)
theorem H6{q:Nat×Option MB}:∀(u:S8) (m:Mem),(∀r∈u,q.1≠r.1)→app u (qL m q)=qL (app u m) q
 | [],m,_=>rfl
 |r::u,m,h=>by
  show app u (qL (qL m q) r)=qL (app u (qL m r)) q
  rw[NV m (h r Wp),H6 u _ fun r' HD=>h r' (Wi _ HD)]
theorem H7:∀(u v:S8) (m:Mem),(∀q∈u,∀r∈v,q.1≠r.1)→app v (app u m)=app u (app v m)
 | [],v,m,_=>rfl
 |q::u,v,m,h=>by
  show app v (app u (qL m q))=app u (qL (app v m) q)
  rw[H7 u v _ fun q' Uw r hr=>h q' (Wi _ Uw) r hr,H6 v m fun r hr=>h q Wp r hr]
theorem zN{m:Mem}(h:q.1≠l):look (qL m q) l=look m l:=by
 unfold look
 rw[yf,if_neg (fun e=>h e.symm)]
 by_cases h1:l<m.length
 ·rw[if_pos h1]
 ·rw[if_neg h1,Wy (by omega)]
  split<;>rfl
theorem Bc{m m':Mem}(h:look m l=look m' l):look (qL m q) l=look (qL m' q) l:=by
 by_cases e:q.1=l
 ·unfold look
  rw[yf,yf,if_pos e.symm,if_pos e.symm]
 ·rw[zN e,zN e,h]
theorem vE{l:Nat}:∀(u:S8) {m m':Mem},look m l=look m' l→look (app u m) l=look (app u m') l
 | [],_,_,h=>h
 |q::u,_,_,h=>vE u (Bc h)
theorem CV{l:Nat}:∀(u:S8) (m:Mem),(∀q∈u,q.1≠l)→look (app u m) l=look m l
 | [],_,_=>rfl
 |q::u,m,h=>(CV u _ fun r hr=>h r (Wi _ hr)).trans (zN (h q Wp))
/-! The state behind the ZbB of L. -/
structure RA where
 d:Option Tmp
 p:PV
 u:S8
def vT(L:Nat→Bool):Nat→List RA→List PV→List PV
 |_,[],t=>t
 |i,a::as_,t=>vT L (i+1) as_ (if L i=true then je t a.d a.p else t)
def stM(L:Nat→Bool):Nat→List RA→Mem→Mem
 |_,[],m=>m
 |i,a::as_,m=>stM L (i+1) as_ (if L i=true then app a.u m else m)
theorem Sr(t:List PV)(d:Option Tmp)(p:PV):(je t d p).length=t.length:=by cases d<;>simp[je]
theorem Pd{t t':List PV}(hl:t.length=t'.length)(h:t.getD s .un=t'.getD s .un):(je t d p).getD s .un=(je t' d p).getD s .un:=by
 cases d with
 |none=>exact h
 |some d=>
  simp only[je,W0,List.getElem?_set,hl]
  split
  ·rfl
  ·exact h
theorem Nd{t:List PV}(h:d≠some s):(je t d p).getD s .un=t.getD s .un:=by
 cases d with
 |none=>rfl
 |some d=>
  have:d≠s:=fun e=>h (by rw[e])
  simp only[je,W0,Wt this]
theorem Pc{t:List PV}{d e:Option Tmp}{p q:PV}(h:d=none∨d≠e):je (je t d p) e q=je (je t e q) d p:=by
 cases d with
 |none=>rfl
 |some d=>
  cases e with
  |none=>rfl
  |some e=>
   have:d≠e:=fun h'=>by rcases h with h|h<;>simp_all
   simp only[je]
   exact List.set_comm _ _ this
theorem FC{L L':Nat→Bool}{s:Nat}:∀(as_:List RA) (i:Nat) (t t':List PV),t.length=t'.length→t.getD s .un=t'.getD s .un→(∀k a,as_[k]?=some a→L (i+k)≠L' (i+k)→a.d≠some s)→(vT L i as_ t).getD s .un=(vT L' i as_ t').getD s .un
 | [],_,_,_,_,h,_=>h
 |a::as_,i,t,t',hl,h,hd=>by
  simp only[vT]
  have h0:=hd 0 a rfl
  simp only[Xn]at h0
  refine FC as_ (i+1) _ _ ?_ ?_ fun k b hk iw=>hd (k+1) b (by simpa using hk) (by rwa[show i+(k+1)=i+1+k by omega])
  ·split<;>split<;>simp[Sr,hl]
  ·cases h1:L i<;>cases h2:L' i<;>simp only[WU,if_false,if_true]
   ·exact h
   ·rw[Nd (h0 (by rw[h1,h2];simp))];exact h
   ·rw[Nd (h0 (by rw[h1,h2];simp))];exact h
   ·exact Pd hl h
theorem FB{L L':Nat→Bool}{l:Nat}:∀(as_:List RA) (i:Nat) (m m':Mem),look m l=look m' l→(∀k a,as_[k]?=some a→L (i+k)≠L' (i+k)→∀q∈a.u,q.1≠l)→look (stM L i as_ m) l=look (stM L' i as_ m') l
 | [],_,_,_,h,_=>h
 |a::as_,i,m,m',h,hd=>by
  simp only[stM]
  have h0:=hd 0 a rfl
  simp only[Xn]at h0
  refine FB as_ (i+1) _ _ ?_ fun k b hk iw=>hd (k+1) b (by simpa using hk) (by rwa[show i+(k+1)=i+1+k by omega])
  cases h1:L i<;>cases h2:L' i<;>simp only[WU,if_false,if_true]
  ·exact h
  ·rw[CV _ _ (h0 (by rw[h1,h2];simp))];exact h
  ·rw[CV _ _ (h0 (by rw[h1,h2];simp))];exact h
  ·exact vE _ h
theorem DH{L:Nat→Bool}{d:Option Tmp}{p:PV}:∀(as_:List RA) (i:Nat) (t:List PV),(∀k a,as_[k]?=some a→L (i+k)=true→d=none∨d≠a.d)→vT L i as_ (je t d p)=je (vT L i as_ t) d p
 | [],_,_,_=>rfl
 |a::as_,i,t,h=>by
  simp only[vT]
  have h0:=h 0 a rfl
  simp only[Xn]at h0
  cases h1:L i
  ·simp only[WU,if_false]
   exact DH as_ (i+1) t fun k b hk hL=>h (k+1) b (by simpa using hk) (by rwa[show i+(k+1)=i+1+k by omega])
  ·simp only[if_true]
   rw[Pc (h0 h1)]
   exact DH as_ (i+1) _ fun k b hk hL=>h (k+1) b (by simpa using hk) (by rwa[show i+(k+1)=i+1+k by omega])
theorem DF{L:Nat→Bool}{u:S8}:∀(as_:List RA) (i:Nat) (m:Mem),(∀k a,as_[k]?=some a→L (i+k)=true→∀q∈u,∀r∈a.u,q.1≠r.1)→stM L i as_ (app u m)=app u (stM L i as_ m)
 | [],_,_,_=>rfl
 |a::as_,i,m,h=>by
  simp only[stM]
  have h0:=h 0 a rfl
  simp only[Xn]at h0
  cases h1:L i
  ·simp only[WU,if_false]
   exact DF as_ (i+1) m fun k b hk hL=>h (k+1) b (by simpa using hk) (by rwa[show i+(k+1)=i+1+k by omega])
  ·simp only[if_true]
   rw[H7 u a.u m (h0 h1)]
   exact DF as_ (i+1) _ fun k b hk hL=>h (k+1) b (by simpa using hk) (by rwa[show i+(k+1)=i+1+k by omega])
def ins(L:Nat→Bool)(j:Nat):Nat→Bool:=fun i=>if i=j then true else L i
theorem L8{L L':Nat→Bool}:∀(as_:List RA) (i:Nat) (t:List PV),(∀k,k<as_.length→L (i+k)=L' (i+k))→vT L i as_ t=vT L' i as_ t
 | [],_,_,_=>rfl
 |a::as_,i,t,h=>by
  simp only[vT]
  have h0:=h 0 (by simp)
  simp only[Xn]at h0
  rw[h0]
  exact L8 as_ (i+1) _ fun k hk=>by rw[show i+1+k=i+(k+1)by omega];exact h (k+1) (by simpa using hk)
theorem L7{L L':Nat→Bool}:∀(as_:List RA) (i:Nat) (m:Mem),(∀k,k<as_.length→L (i+k)=L' (i+k))→stM L i as_ m=stM L' i as_ m
 | [],_,_,_=>rfl
 |a::as_,i,m,h=>by
  simp only[stM]
  have h0:=h 0 (by simp)
  simp only[Xn]at h0
  rw[h0]
  exact L7 as_ (i+1) _ fun k hk=>by rw[show i+1+k=i+(k+1)by omega];exact h (k+1) (by simpa using hk)
theorem Nw{L:Nat→Bool}{a0:RA}:∀(as_:List RA) (i k0:Nat) (t:List PV),as_[k0]?=some a0→L (i+k0)=false→(∀k a,as_[k]?=some a→k0<k→L (i+k)=true→a0.d=none∨a0.d≠a.d)→vT (ins L (i+k0)) i as_ t=je (vT L i as_ t) a0.d a0.p
 | [],_,_,_,h,_,_=>by simp at h
 |a::as_,i,k0,t,h,hL,hd=>by
  simp only[vT]
  cases k0 with
  |zero=>
   obtain rfl:a=a0:=by simpa using h
   simp only[Xn]at hL⊢
   have ei:ins L i i=true:=by simp[ins]
   simp only[ei,if_true,hL,WU,if_false]
   have e:vT (ins L i) (i+1) as_ (je t a.d a.p)=vT L (i+1) as_ (je t a.d a.p):=L8 as_ (i+1) _ fun k hk=>by simp only[ins];rw[if_neg (by omega)]
   rw[e]
   exact DH as_ (i+1) t fun k b hk hb=>hd (k+1) b (by simpa using hk) (by omega) (by rwa[show i+(k+1)=i+1+k by omega])
  |succ k0=>
   have e1:ins L (i+(k0+1)) i=L i:=by simp only[ins];rw[if_neg (by omega)]
   rw[e1,show i+(k0+1)=i+1+k0 by omega]
   exact Nw as_ (i+1) k0 _ (by simpa using h) (by rwa[show i+(k0+1)=i+1+k0 by omega]at hL) fun k b hk bF hb=>hd (k+1) b (by simpa using hk) (by omega) (by rwa[show i+(k+1)=i+1+k by omega])
theorem Nv{L:Nat→Bool}{a0:RA}:∀(as_:List RA) (i k0:Nat) (m:Mem),as_[k0]?=some a0→L (i+k0)=false→(∀k a,as_[k]?=some a→k0<k→L (i+k)=true→∀q∈a0.u,∀r∈a.u,q.1≠r.1)→stM (ins L (i+k0)) i as_ m=app a0.u (stM L i as_ m)
 | [],_,_,_,h,_,_=>by simp at h
 |a::as_,i,k0,m,h,hL,hd=>by
  simp only[stM]
  cases k0 with
  |zero=>
   obtain rfl:a=a0:=by simpa using h
   simp only[Xn]at hL⊢
   have ei:ins L i i=true:=by simp[ins]
   simp only[ei,if_true,hL,WU,if_false]
   have e:stM (ins L i) (i+1) as_ (app a.u m)=stM L (i+1) as_ (app a.u m):=L7 as_ (i+1) _ fun k hk=>by simp only[ins];rw[if_neg (by omega)]
   rw[e]
   exact DF as_ (i+1) m fun k b hk hb=>hd (k+1) b (by simpa using hk) (by omega) (by rwa[show i+(k+1)=i+1+k by omega])
  |succ k0=>
   have e1:ins L (i+(k0+1)) i=L i:=by simp only[ins];rw[if_neg (by omega)]
   rw[e1,show i+(k0+1)=i+1+k0 by omega]
   exact Nv as_ (i+1) k0 _ (by simpa using h) (by rwa[show i+(k0+1)=i+1+k0 by omega]at hL) fun k b hk bF hb=>hd (k+1) b (by simpa using hk) (by omega) (by rwa[show i+(k+1)=i+1+k by omega])
/-! The check: Kk is not ordered is apart. -/
structure LE where
 rd:List Nat
 wr:List Nat
 ts:List Nat
 d:Option Nat
instance:Inhabited LE:=⟨⟨[],[],[],none⟩⟩
def Zal(ops:Array Oper)(o:Oper):List Nat:=match o.guard with
 |none=>[]
 |some (j,_)=>((ops[j]?).bind (·.dst)).toList
def S5:Operand→List Nat
 |.tmp i=>[i]
 |_=>[]
def AR(ops:Array Oper)(o:Oper):List Nat:=(o.op.operands.toList.flatMap S5)++Zal ops o
def Ld(ops:Array Oper)(o:Oper)(t:List PV)(wd ν:Nat):LE:=⟨opR o.op t,PZ o.op t wd ν,AR ops o,o.dst⟩
def le0(ops:Array Oper)(o:Oper):LE:=⟨[],[],AR ops o,o.dst⟩
def qK(a b:List Nat):Bool:=a.all fun x=>!b.contains x
theorem sg{a b:List Nat}(h:qK a b=true){x y:Nat}(hx:x∈a)(hy:y∈b):x≠y:=by
 rintro rfl
 have:=V5.1 h x hx
 simp at this
 exact this hy
def zt(a b:LE):Bool:=qK a.wr b.rd&&qK a.wr b.wr&&qK b.wr a.rd&&qK a.d.toList b.ts&&qK b.d.toList a.ts&&qK a.d.toList b.d.toList
def RY(acc:List Nat)(o:Oper):Nat:=o.after.toList.foldr (fun e s=>if Region.binds .any e then s |||2 ^ e.on |||acc.getD e.on 0 else s) 0
def Jf:List Oper→List Nat→List Nat
 | [],acc=>acc
 |o::rest,acc=>Jf rest (acc++[RY acc o])
def Ik(ops:List Oper)(g:List LE):Bool:=
 let ms:=Jf ops []
 (WO ops.length).all fun j=>(((ops[j]?).map (·.after.all fun e=>!Region.binds .any e ||decide (e.on<j))).getD false)&&(WO j).all fun i=>(ms.getD j 0).testBit i ||zt (g.getD i default) (g.getD j default)
end Go.Proofs.YtbalgkakkoocjaaGreat
