/- A part of the proof of the statement in the last file of this claim: texts on the language of the program and on its functions. No condition. -/
import Derived.Test.YtmcdjilbkmhfoaaGreatCRetryOrders1
import Derived.Laws.AppendOwnNone
import Derived.Laws.BytesArg
set_option linter.unusedVariables false
set_option linter.unusedSimpArgs false
namespace Go.Proofs.YtmcdjilbkmhfoaaGreat
set_option maxRecDepth 10000
open Go.RowKit
set_option linter.unusedVariables false
section
variable {w:World} {O:Nat→Prop} {E:Env} {w0:World} {m:Mem} {P:Program}
def srcOf (m:Mem):PV→Option (List (List PV))
 | .sl es=>some es
 | .v (.slice none 0 _)=>some []
 | .ms l=>match m[l]? with
  | some (some mb)=>some mb.es
  | _=>none
 | .ss l a b=>match m[l]? with
  | some (some mb)=>some ((mb.es.drop a).take (b-a))
  | _=>none
 | _=>none
theorem Zmh {i j k:Nat} (h:j<k):(i*k+j) / k=i∧(i*k+j) % k=j:=by
 have hk:0<k:=by omega
 refine ⟨?_,?_⟩
 ·rw [Nat.add_comm,Nat.add_mul_div_right _ _ hk,Nat.div_eq_of_lt h,Nat.zero_add]
 ·rw [Nat.add_comm,Nat.add_mul_mod_self_right,Nat.mod_eq_of_lt h]
theorem ZlQ {B:Blk} {mb:MB} (hb:Zaz w E mb B) (hz:B.z=false) {a b:Nat} (hab:a≤b) (hbn:b≤B.n) {es:List (List PV)} (hes:es=(mb.es.drop a).take (b-a)) {k:Nat} (hk0:0<k) (hlen:∀ (i:Nat) (cs:List PV),es[i]?=some cs→cs.length=k):
 ∃ news:List Value,news.length=es.length*k∧(∀ j u,news[j]?=some u→w.cell? ((⟨B.b,a*B.k,none⟩:Addr).add j)=some u)∧(∀ u∈news,u.oneCell'=true)∧
  ∀ (i:Nat) (cs:List PV) (j:Nat) (p:PV),es[i]?=some cs→cs[j]?=some p→∃ u,news[i*k+j]?=some u∧Rep w E p u:=by
 obtain ⟨cells,m1,m2,m3⟩:=hb.mem hz
 have hn:=hb.n
 have hel:es.length=b-a:=by rw [hes,List.length_take,List.length_drop]; omega
 have get:∀ {i:Nat} {cs:List PV},es[i]?=some cs→mb.es[a+i]?=some cs:=by
  intro i cs hi
  rw [hes,List.getElem?_take] at hi
  split at hi
  ·rwa [List.getElem?_drop] at hi
  ·cases hi
 rcases Nat.eq_zero_or_pos es.length with h0 | h0
 ·have e0:es=[]:=List.length_eq_zero_iff.1 h0
  subst e0
  exact ⟨[],by simp,by simp,by simp,by simp⟩
 have e0:B.k=k:=(hb.es _ _ (get (List.getElem?_eq_getElem h0))).symm.trans (hlen 0 _ (List.getElem?_eq_getElem h0))
 rw [e0] at m2 m3
 have hlt:∀ t,t<es.length*k→∃ x,cells[a*k+t]?=some x∧x.oneCell'=true:=by
  intro t ht
  have hq:t / k<es.length:=by rw [Nat.div_lt_iff_lt_mul hk0]; exact ht
  have hr':=Nat.mod_lt t hk0
  have e1:=List.getElem?_eq_getElem hq
  have e2:(es[t / k])[t % k]?=some ((es[t / k])[t % k]'(by rw [hlen _ _ e1]; exact hr')):=List.getElem?_eq_getElem _
  obtain ⟨x,x1,x2,_⟩:=m3 _ _ _ _ (get e1) e2
  have e3:t / k*k+t % k=t:=by rw [Nat.mul_comm]; exact Nat.div_add_mod t k
  rw [Nat.add_mul,Nat.add_assoc,e3] at x1
  exact ⟨x,x1,x2⟩
 have hfit:a*k+es.length*k≤cells.size:=by
  rw [m2,← Nat.add_mul]
  exact Nat.mul_le_mul_right _ (by have:=hb.nc; omega)
 refine ⟨(cells.toList.drop (a*k)).take (es.length*k),by simp only [List.length_take,List.length_drop,Array.length_toList]; omega,fun j v hj=>?_,fun v hv=>?_,fun i cs j p hi hj=>?_⟩
 ·have ea:(⟨B.b,a*B.k,none⟩:Addr).add j=⟨B.b,a*k+j,none⟩:=by rw [e0]; unfold Addr.add; split <;> simp_all
  rw [ea,cell_of_row w B.b _ cells B.T (0,0) m1]
  rw [List.getElem?_take] at hj
  split at hj
  ·rw [List.getElem?_drop] at hj; simpa using hj
  ·cases hj
 ·obtain ⟨t,ht⟩:=List.getElem?_of_mem hv
  rw [List.getElem?_take] at ht
  split at ht
  ·rename_i htl
   obtain ⟨x,x1,x2⟩:=hlt t htl
   rw [List.getElem?_drop,Array.getElem?_toList,x1] at ht
   cases ht; exact x2
  ·cases ht
 ·have hjl:j<k:=by rw [← hlen i cs hi]; exact (List.getElem?_eq_some_iff.1 hj).1
  have hil:i<es.length:=(List.getElem?_eq_some_iff.1 hi).1
  have hlt:i*k+j<es.length*k:=by
   have:(i+1)*k≤es.length*k:=Nat.mul_le_mul_right _ hil
   rw [Nat.succ_mul] at this
   omega
  obtain ⟨x,x1,_,x3⟩:=m3 _ cs j p (get hi) hj
  refine ⟨x,?_,x3⟩
  rw [List.getElem?_take_of_lt hlt,List.getElem?_drop,Array.getElem?_toList,← x1,Nat.add_mul,Nat.add_assoc]
theorem ZqM (hk:Ok w0 O E w m) {p:PV} {y:Value} (hy:Rep w E p y) {es:List (List PV)} (hs:srcOf m p=some es) {k:Nat} (hk0:0<k) (hlen:∀ (i:Nat) (cs:List PV),es[i]?=some cs→cs.length=k):
 (∃ c,y=.slice none 0 c∧es=[])∨∃ (a:Addr) (c:Nat) (news:List Value),y=.slice (some a) es.length c∧news.length=es.length*k∧(∀ j u,news[j]?=some u→w.cell? (a.add j)=some u)∧(∀ u∈news,u.oneCell'=true)∧
  ∀ (i:Nat) (cs:List PV) (j:Nat) (p:PV),es[i]?=some cs→cs[j]?=some p→∃ u,news[i*k+j]?=some u∧Rep w E p u:=by
 unfold srcOf at hs
 split at hs
 ·rename_i es'
  obtain rfl:es'=es:=by simpa using hs
  cases hy.sl_inv with
  | nil A c=>
   cases A with
   | none=>exact .inl ⟨c,rfl,rfl⟩
   | some a=>exact .inr ⟨a,c,[],rfl,by simp,by simp,by simp,by simp⟩
  | sl _ b off k' c u hS hkp hn hm hes hc h1 hr=>
   refine .inr ⟨⟨b,off,none⟩,c,(List.range (es'.length*k)).map fun t=>u (t / k) (t % k),rfl,by simp,fun j v hj=>?_,fun v hv=>?_,fun i cs j p hi hj=>?_⟩
   ·have hjl:j<es'.length*k:=by have:=(List.getElem?_eq_some_iff.1 hj).1; simpa using this
    rw [List.getElem?_map,List.getElem?_range hjl] at hj
    simp only [Option.map_some,Option.some.injEq] at hj
    have hq:j / k<es'.length:=by rw [Nat.div_lt_iff_lt_mul hk0]; exact hjl
    have hr':=Nat.mod_lt j hk0
    have e1:=List.getElem?_eq_getElem hq
    have e0:k'=k:=(hes _ _ e1).symm.trans (hlen _ _ e1)
    have e2:(es'[j / k])[j % k]?=some ((es'[j / k])[j % k]'(by rw [hlen _ _ e1]; exact hr')):=List.getElem?_eq_getElem _
    have:=hc _ _ _ _ e1 e2
    rw [e0] at this
    have e3:j / k*k+j % k=j:=by rw [Nat.mul_comm]; exact Nat.div_add_mod j k
    have ea:(⟨b,off,none⟩:Addr).add j=⟨b,off+j,none⟩:=by unfold Addr.add; split <;> simp_all
    rw [ea,← hj,← this]
    congr 2
    omega
   ·obtain ⟨t,ht,rfl⟩:=List.mem_map.1 hv
    have hjl:t<es'.length*k:=by simpa using ht
    have hq:t / k<es'.length:=by rw [Nat.div_lt_iff_lt_mul hk0]; exact hjl
    have hr':=Nat.mod_lt t hk0
    have e1:=List.getElem?_eq_getElem hq
    have e2:(es'[t / k])[t % k]?=some ((es'[t / k])[t % k]'(by rw [hlen _ _ e1]; exact hr')):=List.getElem?_eq_getElem _
    exact h1 _ _ _ _ e1 e2
   ·have hjl:j<k:=by rw [← hlen i cs hi]; exact (List.getElem?_eq_some_iff.1 hj).1
    have hil:i<es'.length:=(List.getElem?_eq_some_iff.1 hi).1
    obtain ⟨d1,d2⟩:=Zmh (i:=i) hjl
    have hlt:i*k+j<es'.length*k:=by
     have:(i+1)*k≤es'.length*k:=Nat.mul_le_mul_right _ hil
     rw [Nat.succ_mul] at this
     omega
    refine ⟨u i j,?_,.c (hr i cs j p hi hj)⟩
    rw [List.getElem?_map,List.getElem?_range hlt]
    simp [d1,d2]
 ·obtain rfl:es=[]:=by simpa [eq_comm] using hs
  obtain ⟨rfl,_⟩:=hy.v_inv
  exact .inl ⟨_,rfl,rfl⟩
 ·split at hs
  ·rename_i l mb hm
   obtain rfl:mb.es=es:=by simpa using hs
   obtain ⟨B,hB,hb,rfl⟩:=hy.ms_inv hk hm
   cases hz:B.z with
   | true=>exact .inl ⟨0,by simp [Blk.sv,hz],hb.nil hz⟩
   | false=>
    obtain ⟨news,n1,n2,n3,n4⟩:=ZlQ hb hz (a:=0) (b:=B.n) (Nat.zero_le _) (Nat.le_refl _) (es:=mb.es) (by simp [hb.n]) hk0 hlen
    exact .inr ⟨_,B.c,news,by simp [Blk.sv,hz,hb.n],n1,n2,n3,n4⟩
  ·cases hs
 ·split at hs
  ·rename_i l a b _ mb hm
   obtain rfl:(mb.es.drop a).take (b-a)=es:=by simpa using hs
   obtain ⟨B,hB,hb,A,c,rfl,hab,hbn,hA⟩:=hy.ss_inv hk hm
   have hel:((mb.es.drop a).take (b-a)).length=b-a:=by rw [List.length_take,List.length_drop,← hb.n]; omega
   rcases Nat.lt_or_ge a b with hlt | hge
   ·obtain ⟨hz,rfl,hc1,hc2⟩:=hA hlt
    obtain ⟨news,n1,n2,n3,n4⟩:=ZlQ hb hz hab hbn rfl hk0 hlen
    exact .inr ⟨_,c,news,by rw [hel],n1,n2,n3,n4⟩
   ·have e0:(mb.es.drop a).take (b-a)=[]:=List.length_eq_zero_iff.1 (by rw [hel]; omega)
    have hba:b-a=0:=by omega
    cases A with
    | none=>exact .inl ⟨c,by rw [hba],e0⟩
    | some ad=>
     rw [e0]
     exact .inr ⟨ad,c,[],by rw [hba]; rfl,by simp,by simp,by simp,by simp⟩
  ·cases hs
 ·cases hs
def pAppend (P:Program) (ν:Nat) (m:Mem) (T:TypeId) (s x:PV) (K:PV→Mem→Prop):Prop:=
 match P.underlying T with
 | some (.slice e)=>match pz P e,srcOf m x with
  | some zc,some es=>zc.length=P.cellsOf e∧0<P.cellsOf e∧(∀ cs∈es,cs.length=P.cellsOf e)∧match s with
   | .ms l=>live m l fun mb=>mb.T.t=e∧mb.k=P.cellsOf e∧mb.es.length+es.length≤1099511627776∧(mb.es.length+es.length)*P.bytesOf e≤140737488355328∧
    K (.ms ν) (mput (m.set l none) ν ⟨mb.T.sts es,P.cellsOf e,mb.es++es⟩)
   | .v (.slice none 0 0)=>es.length≤1099511627776∧es.length*P.bytesOf e≤140737488355328∧K (.ms ν) (mput m ν ⟨e,P.cellsOf e,es⟩)
   | _=>False
  | _,_=>False
 | _=>False
theorem Zh8 {t ty e:Nat} {i:TypeInfo} (ht:P.underlying t=some (.slice e)) (hi:P.info? e=some i) (c:Nat):
 (Builtin.append_ #[t,t] ty #[.slice none 0 0,.slice none 0 c]).run P w=.ok (.slice none 0 0) w:=by
 simp [Builtin.append_,run_underlying ht,sizeOf,typeInfo,hi,Builtin.lenOf,Builtin.firstCells]
theorem ZhT {t ty e:Nat} {i:TypeInfo} (ht:P.underlying t=some (.slice e)) (hi:P.info? e=some i) (g:Addr) (n cap c:Nat) (hnc:n≤cap):
 (Builtin.append_ #[t,t] ty #[.slice (some g) n cap,.slice none 0 c]).run P w=.ok (.slice (some g) n cap) w:=by
 simp [Builtin.append_,run_underlying ht,sizeOf,typeInfo,hi,Builtin.lenOf,Builtin.firstCells,hnc,storeCells]
theorem Zhu {es es':List (List PV)} {k:Nat} (hk0:0<k) {E':Env} {w':World} (hx:Ext w w' E E') {old news:List Value} (ho:old.length=es.length*k) (hn:news.length=es'.length*k)
 (h1:∀ (i:Nat) (cs:List PV),es[i]?=some cs→cs.length=k) (h2:∀ (i:Nat) (cs:List PV),es'[i]?=some cs→cs.length=k)
 (r1:∀ (i:Nat) (cs:List PV) (j:Nat) (p:PV),es[i]?=some cs→cs[j]?=some p→∃ u,old[i*k+j]?=some u∧u.oneCell'=true∧Rep w E p u)
 (hone:∀ u∈news,u.oneCell'=true)
 (r2:∀ (i:Nat) (cs:List PV) (j:Nat) (p:PV),es'[i]?=some cs→cs[j]?=some p→∃ u,news[i*k+j]?=some u∧Rep w E p u)
 {cur:Array Value} (hcur:cur.toList.take ((es.length+es'.length)*k)=old++news):
 (∀ (i:Nat) (cs:List PV),(es++es')[i]?=some cs→cs.length=k)∧∀ (i:Nat) (cs:List PV) (j:Nat) (p:PV),(es++es')[i]?=some cs→cs[j]?=some p→∃ x,cur[i*k+j]?=some x∧x.oneCell'=true∧Rep w' E' p x:=by
 have hlen:∀ (i:Nat) (cs:List PV),(es++es')[i]?=some cs→cs.length=k:=by
  intro i cs hi
  rcases Nat.lt_or_ge i es.length with h | h
  ·rw [List.getElem?_append_left h] at hi; exact h1 i cs hi
  ·rw [List.getElem?_append_right h] at hi; exact h2 _ cs hi
 refine ⟨hlen,fun i cs j p hi hj=>?_⟩
 have hjl:j<k:=by rw [← hlen i cs hi]; exact (List.getElem?_eq_some_iff.1 hj).1
 have hil:i<es.length+es'.length:=by have:=(List.getElem?_eq_some_iff.1 hi).1; simpa using this
 have hin:i*k+j<(es.length+es'.length)*k:=by
  have:(i+1)*k≤(es.length+es'.length)*k:=Nat.mul_le_mul_right _ hil
  rw [Nat.succ_mul] at this
  omega
 have hcell:cur[i*k+j]?=(old++news)[i*k+j]?:=by rw [← hcur,List.getElem?_take_of_lt hin,Array.getElem?_toList]
 rw [hcell]
 rcases Nat.lt_or_ge i es.length with h | h
 ·rw [List.getElem?_append_left h] at hi
  obtain ⟨u,u1,u2,u3⟩:=r1 i cs j p hi hj
  have:i*k+j<old.length:=(List.getElem?_eq_some_iff.1 u1).1
  exact ⟨u,by rw [List.getElem?_append_left this]; exact u1,u2,u3.ext hx⟩
 ·rw [List.getElem?_append_right h] at hi
  obtain ⟨u,u1,u3⟩:=r2 _ cs j p hi hj
  have hge:old.length≤i*k+j:=by
   rw [ho]
   have:es.length*k≤i*k:=Nat.mul_le_mul_right _ h
   omega
  refine ⟨u,?_,hone u (List.mem_of_getElem? u1),u3.ext hx⟩
  rw [List.getElem?_append_right hge,← u1,ho]
  congr 1
  rw [Nat.sub_mul]
  have:es.length*k≤i*k:=Nat.mul_le_mul_right _ h
  omega
theorem ZgH {T ty e:TypeId} {y:Value} {es:List (List PV)} (hu:P.underlying T=some (.slice e)) (hz:(pz P e).isSome=true) (hzl:∀ zc,pz P e=some zc→zc.length=P.cellsOf e) (hpos:0<P.cellsOf e) (hlen:∀ cs∈es,cs.length=P.cellsOf e)
 (hsr:(∃ c,y=.slice none 0 c∧es=[])∨∃ (a:Addr) (c:Nat) (news:List Value),y=.slice (some a) es.length c∧news.length=es.length*P.cellsOf e∧(∀ j u,news[j]?=some u→w.cell? (a.add j)=some u)∧(∀ u∈news,u.oneCell'=true)∧
  ∀ (i:Nat) (cs:List PV) (j:Nat) (p:PV),es[i]?=some cs→cs[j]?=some p→∃ u,news[i*P.cellsOf e+j]?=some u∧Rep w E p u)
 (hbig:es.length≤1099511627776) (hbytes:es.length*P.bytesOf e≤140737488355328):
 ∃ (B:Blk) (w':World),(Builtin.append_ #[T,T] ty #[.slice none 0 0,y]).run P w=.ok B.sv w'∧w'.os=w.os∧w'.tape=w.tape∧w'.output=w.output∧w.heap.size≤w'.heap.size∧(∀ b,b<w.heap.size→w'.heap[b]?=w.heap[b]?)∧
  (B.z=false→w.heap.size≤B.b∧B.b<w'.heap.size)∧∀ E',Ext w w' E E'→Zaz w' E' ⟨e,P.cellsOf e,es⟩ B:=by
 obtain ⟨zc,hz⟩:=Option.isSome_iff_exists.1 hz
 have hzl:=hzl zc hz
 obtain ⟨i,z,hi,hz',hc⟩:=Ziu (w:=w) (E:=E) hz
 have his:i.size=P.cellsOf e:=by simp [Program.cellsOf,hi]
 have hib:i.bytes=P.bytesOf e:=by simp [Program.bytesOf,hi]
 have hzs:z.cells.size=P.cellsOf e:=by rw [hc.1,hzl]
 have hlen':∀ (i:Nat) (cs:List PV),es[i]?=some cs→cs.length=P.cellsOf e:=fun i cs h=>hlen cs (List.mem_of_getElem? h)
 have nilB:es=[]→∀ E',Zaz w E' ⟨e,P.cellsOf e,es⟩ ⟨0,0,0,P.cellsOf e,e,true⟩:=fun h0 E'=>
  ⟨rfl,by rw [h0]; rfl,rfl,hpos,Nat.le_refl _,Nat.zero_le _,by rw [h0]; simp,fun _=>h0,fun h=>(by cases h),fun _ hT=>by cases hT⟩
 rcases hsr with ⟨c,rfl,h0⟩ | ⟨a,c,news,rfl,hnl,hnc,hone,hnr⟩
 ·exact ⟨⟨0,0,0,P.cellsOf e,e,true⟩,w,Zh8 hu hi c,rfl,rfl,rfl,Nat.le_refl _,fun _ _=>rfl,fun h=>(by cases h),fun E' _=>nilB h0 E'⟩
 ·obtain ⟨v',w',hrun,hown',hg,hnil,hblk⟩:=run_append_own_at (P:=P) w 0 T ty e i z (P.cellsOf e) (P.bytesOf e) hu hi hz' his hib hzs hpos _ 0 [] (World.ownsRow_nil _ _ _ _) a es.length c news hnl hnc hone (by unfold maxLen; omega) (by simpa using hbytes) (Nat.zero_le _)
  have hold:∀ b,b<w.heap.size→w'.heap[b]?=w.heap[b]?:=fun b hb1=>hg.block b hb1 (by simp [Value.ownBlock])
  rcases hown'.2 with ⟨rfl,h0⟩ | ⟨g,cap,cur,rfl,hgB,hgh,hgn,hgc,hgs,hgt⟩
  ·have h0':es=[]:=List.length_eq_zero_iff.1 (by omega)
   refine ⟨⟨0,0,0,P.cellsOf e,e,true⟩,w',hrun,hg.os,hg.tape,hg.output,hg.size,hold,fun h=>(by cases h),fun E' _=>?_⟩
   exact ⟨rfl,by rw [h0']; rfl,rfl,hpos,Nat.le_refl _,Nat.zero_le _,by rw [h0']; simp,fun _=>h0',fun h=>(by cases h),fun _ hT=>by cases hT⟩
  ·simp only [Value.ownBlock,reduceCtorEq,Option.some.injEq,false_or] at hblk
   have hgl:g<w'.heap.size:=(Array.getElem?_eq_some_iff.1 hgh).1
   simp only [Nat.zero_add,List.nil_append] at hgt hgn hrun
   refine ⟨⟨g,cap,es.length,P.cellsOf e,e,false⟩,w',hrun,hg.os,hg.tape,hg.output,hg.size,hold,fun _=>⟨by simp only; omega,hgl⟩,fun E' hx'=>?_⟩
   obtain ⟨g1,g2⟩:=Zhu (es:=[]) (es':=es) (k:=P.cellsOf e) hpos hx' (old:=[]) (news:=news) (by simp) hnl (by simp) hlen' (by simp) hone hnr (cur:=cur) (by simpa using hgt)
   simp only [List.nil_append] at g1 g2
   exact ⟨rfl,rfl,rfl,hpos,hgn,hgc,g1,fun h=>(by cases h),fun _=>⟨cur,hgh,hgs,g2⟩,fun _ hT=>by cases hT⟩
theorem ZiS (hk:Ok w0 O E w m) {ν:Nat} (hν:¬ E.used ν) {T ty:TypeId} {p q:PV} {x y:Value} (hx:Rep w E p x) (hy:Rep w E q y) {K:PV→Mem→Prop} (h:pAppend P ν m T p q K):
 ∃ p m',K p m'∧Zhf P w0 O E w ν (Builtin.append_ #[T,T] ty #[x,y]) p m':=by
 unfold pAppend at h
 split at h
 ·rename_i e hu
  split at h
  ·rename_i zc es hz hsrc
   obtain ⟨hzl,hpos,hlen,h⟩:=h
   have hzl':∀ zc',pz P e=some zc'→zc'.length=P.cellsOf e:=fun zc' h'=>by rw [hz] at h'; cases h'; exact hzl
   have hlen':∀ (i:Nat) (cs:List PV),es[i]?=some cs→cs.length=P.cellsOf e:=fun i cs h=>hlen cs (List.mem_of_getElem? h)
   have hsr:=ZqM hk hy hsrc hpos hlen'
   split at h
   ·rename_i l
    obtain ⟨mb,hm,hmT,hmk,hbig,hbytes,hK⟩:=Zb4 h
    obtain ⟨B,hB,hb,rfl⟩:=hx.ms_inv hk hm
    have hBk:B.k=P.cellsOf e:=hb.k.trans hmk
    have hBT:B.T=e:=hb.T.trans hmT
    refine ⟨_,_,hK,?_⟩
    cases hzB:B.z with
    | true=>
     have h0:=hb.nil hzB
     obtain ⟨B',w',hrun,g1,g2,g3,g4,g5,g6,g7⟩:=ZgH (w:=w) (E:=E) (ty:=ty) hu (by rw [hz]; rfl) hzl' hpos hlen hsr (by omega) (by
      rw [h0] at hbytes; simpa using hbytes)
     have hmv:=hk.move hν hB ⟨mb.T.sts es,P.cellsOf e,mb.es++es⟩ B' g1 g2 g3 g4 (fun b hb1 _=>g5 b hb1) (fun hz'=>.inr (g6 hz').1) (fun hz'=>(g6 hz').2) fun hx'=>by
      rw [h0,List.nil_append]; exact (g7 _ hx').retype ((TK.sts_t _ _).trans hmT) fun T1 h1=>(ZkY h1).2
     refine ⟨_,w',_,by rw [show B.sv=.slice none 0 0 by simp [Blk.sv,hzB]]; exact hrun,hmv.1,hmv.2,.ms _ _ (.inl rfl) (by unfold Blk.sv; split <;> rfl) fun B1 hB1=>?_,fun l hl=>hl.symm⟩
     have:B1=B':=by simpa [Env.move,eq_comm] using hB1
     rw [this]
    | false=>
     obtain ⟨i,z,hi,hz',hc⟩:=Ziu (w:=w) (E:=E) hz
     have his:i.size=P.cellsOf e:=by simp [Program.cellsOf,hi]
     have hib:i.bytes=P.bytesOf e:=by simp [Program.bytesOf,hi]
     have hzs:z.cells.size=P.cellsOf e:=by rw [hc.1,hzl]
     obtain ⟨o1,o2,o3⟩:=hk.own l B hB hzB
     obtain ⟨cells,m1,m2,m3⟩:=hb.mem hzB
     rw [hBk] at m2 m3
     have hsv:B.sv=.slice (some ⟨B.b,0,none⟩) B.n B.c:=by simp [Blk.sv,hzB]
     rw [hsv]
     rcases hsr with ⟨c,rfl,rfl⟩ | ⟨a,c,news,rfl,hnl,hnc,hone,hnr⟩
     ·have hmv:=hk.move (w':=w) hν hB ⟨mb.T.sts [],P.cellsOf e,mb.es++[]⟩ B rfl rfl rfl (Nat.le_refl _) (fun _ _ _=>rfl) (fun _=>.inl ⟨hzB,rfl⟩) (fun _=>o2) fun hx'=>⟨hBk,by rw [hb.n]; simp,hBT.trans ((TK.sts_t _ _).trans hmT).symm,hb.pos,hb.nc,hb.cm,by
       intro i cs hi; simp only [List.append_nil] at hi; exact hb.es i cs hi,fun h=>(by rw [hzB] at h; cases h),fun _=>⟨cells,m1,by rw [hBk]; exact m2,by
       intro i cs j p hi hj
       simp only [List.append_nil] at hi
       obtain ⟨x,x1,x2,x3⟩:=m3 i cs j p hi hj
       rw [hBk]
       exact ⟨x,x1,x2,x3.ext hx'⟩⟩,fun T1 hT1 hz1 i cs j es x hi hj hne hc=>by
       simp only [List.append_nil] at hi
       rw [TK.sts_t]
       exact (hb.key T1 (ZkY hT1).1 hz1 i cs j es x hi hj hne hc).ext hx'⟩
      refine ⟨_,w,_,ZhT (w:=w) hu hi _ _ _ c hb.nc,hmv.1,hmv.2,.ms _ _ (.inl rfl) rfl fun B' hB'=>?_,fun l hl=>hl.symm⟩
      have:B'=B:=by simpa [Env.move,eq_comm] using hB'
      subst this; exact hsv.symm
     ·have hnle:B.n*P.cellsOf e≤B.c*P.cellsOf e:=Nat.mul_le_mul_right _ hb.nc
      have hown:w.ownsRow 0 e (P.cellsOf e) (.slice (some ⟨B.b,0,none⟩) B.n B.c) B.n (cells.toList.take (B.n*P.cellsOf e)):=
       ⟨by rw [List.length_take,Array.length_toList]; omega,.inr ⟨B.b,B.c,cells,rfl,Nat.zero_le _,by rw [hBT] at m1; exact m1,hb.nc,hb.cm,m2,rfl⟩⟩
      obtain ⟨v',w',hrun,hown',hg,hnil,hblk⟩:=run_append_own_at (P:=P) w 0 T ty e i z (P.cellsOf e) (P.bytesOf e) hu hi hz' his hib hzs hpos _ B.n _ hown a es.length c news hnl hnc hone (by rw [hb.n]; unfold maxLen; omega) (by rw [hb.n]; exact hbytes) (Nat.zero_le _)
      rcases hown'.2 with ⟨rfl,_⟩ | ⟨g,cap,cur,rfl,hgB,hgh,hgn,hgc,hgs,hgt⟩
      ·have:=hnil.1 rfl; simp at this
      ·simp only [Value.ownBlock,Option.some.injEq] at hblk hg
       have hgl:g<w'.heap.size:=(Array.getElem?_eq_some_iff.1 hgh).1
       have hmv:=hk.move (w':=w') hν hB ⟨mb.T.sts es,P.cellsOf e,mb.es++es⟩ ⟨g,cap,B.n+es.length,P.cellsOf e,e,false⟩ hg.os hg.tape hg.output hg.size
        (fun b hb1 hb2=>hg.block b hb1 (by simpa using hb2 hzB)) (fun _=>by rcases hblk with h | h; exact .inl ⟨hzB,h⟩; exact .inr (by simp only; omega)) (fun _=>hgl) fun hx'=>by
         obtain ⟨g1,g2⟩:=Zhu (es:=mb.es) (es':=es) (k:=P.cellsOf e) hpos hx' (old:=cells.toList.take (B.n*P.cellsOf e)) (news:=news) (by rw [List.length_take,Array.length_toList,← hb.n]; omega) hnl
          (fun i cs hi=>(hb.es i cs hi).trans hBk) hlen' (fun i cs j p hi hj=>by
           obtain ⟨x,x1,x2,x3⟩:=m3 i cs j p hi hj
           have hjl:j<P.cellsOf e:=by rw [← (hb.es i cs hi).trans hBk]; exact (List.getElem?_eq_some_iff.1 hj).1
           have hil:i<B.n:=by rw [hb.n]; exact (List.getElem?_eq_some_iff.1 hi).1
           have hlt:i*P.cellsOf e+j<B.n*P.cellsOf e:=by
            have:(i+1)*P.cellsOf e≤B.n*P.cellsOf e:=Nat.mul_le_mul_right _ hil
            rw [Nat.succ_mul] at this
            omega
           exact ⟨x,by rw [List.getElem?_take_of_lt hlt,Array.getElem?_toList]; exact x1,x2,x3⟩) hone hnr (cur:=cur) (by rw [← hb.n]; exact hgt)
         exact ⟨rfl,by simp [hb.n],((TK.sts_t _ _).trans hmT).symm,hpos,hgn,hgc,g1,fun h=>(by cases h),fun _=>⟨cur,hgh,hgs,g2⟩,fun T1 hT1 _ i cs j es1 x hi hj hne hc=>by
          obtain ⟨hk1,hns⟩:=ZkY hT1
          rcases Nat.lt_or_ge i mb.es.length with hil | hil
          ·simp only [List.getElem?_append_left hil] at hi
           have hjl:j<P.cellsOf e:=by rw [← (hb.es i cs hi).trans hBk]; exact (List.getElem?_eq_some_iff.1 hj).1
           have hlt:i*P.cellsOf e+j<B.n*P.cellsOf e:=by
            have:(i+1)*P.cellsOf e≤B.n*P.cellsOf e:=Nat.mul_le_mul_right _ (by rw [hb.n]; exact hil)
            rw [Nat.succ_mul] at this
            omega
           have hlt2:i*P.cellsOf e+j<(B.n+es.length)*P.cellsOf e:=by rw [Nat.add_mul]; omega
           rw [cell_of_row w' g _ cur e (0,0) hgh] at hc
           have hcc:cells[i*P.cellsOf e+j]?=some x:=by
            have h5:cur.toList[i*P.cellsOf e+j]?=cells.toList[i*P.cellsOf e+j]?:=by
             rw [← List.getElem?_take_of_lt hlt2,hgt,List.getElem?_append_left (by rw [List.length_take,Array.length_toList]; omega),List.getElem?_take_of_lt hlt]
            rw [Array.getElem?_toList,Array.getElem?_toList] at h5
            rw [← h5]; exact hc
           rw [TK.sts_t]
           exact (hb.key T1 hk1 hzB i cs j es1 x hi hj hne (by rw [cell_of_row w B.b _ cells B.T (0,0) m1,hBk]; exact hcc)).ext hx'
          ·simp only [List.getElem?_append_right hil] at hi
           exact absurd (ZkG (hns cs (List.mem_of_getElem? hi)) hj) hne⟩
       refine ⟨_,w',_,hrun,hmv.1,hmv.2,.ms _ _ (.inl rfl) rfl fun B' hB'=>?_,fun l hl=>hl.symm⟩
       have e':B'=⟨g,cap,B.n+es.length,P.cellsOf e,e,false⟩:=by simpa [Env.move,eq_comm] using hB'
       subst e'; rfl
   ·obtain ⟨hbig,hbytes,hK⟩:=h
    obtain ⟨rfl,_⟩:=hx.v_inv
    obtain ⟨B',w',hrun,g1,g2,g3,g4,g5,g6,g7⟩:=ZgH (w:=w) (E:=E) (ty:=ty) hu (by rw [hz]; rfl) hzl' hpos hlen hsr hbig hbytes
    have hmv:=hk.new hν ⟨e,P.cellsOf e,es⟩ B' g1 g2 g3 g4 g5 g6 (g7 _)
    refine ⟨_,_,hK,_,w',_,hrun,hmv.1,hmv.2,.ms _ _ (.inl rfl) (by unfold Blk.sv; split <;> rfl) fun B1 hB1=>?_,fun l hl=>hl.symm⟩
    have:B1=B':=by simpa [Env.add,eq_comm] using hB1
    rw [this]
   ·exact h.elim
  ·exact h.elim
 ·exact h.elim
end
def isC1:PV→Bool
 | .v _ | .ud | .un | .sl _ | .rp _=>true
 | _=>false
def isC:PV→Bool
 | .fn _ cs=>cs.all isC1
 | p=>isC1 p
def isF:PV→Bool
 | .v _ | .ud | .un | .ms _ | .be ..=>true
 | _=>false
def E1 (S:Nat→Prop) (β:Nat→Option Blk) (n:Nat) (ω:Nat→Key→Prop:=fun _ _=>False):Env:={ S:=S,β:=β,used:=fun l=>l<n,ω:=ω }
def CallM (P:Program) (f:FuncId) (args:List PV) (m0:Mem) (r:PV) (m1:Mem):Prop:=
 ∀ (S:Nat→Prop) (β:Nat→Option Blk) (w:World) (vs:Array Value) (ω:Nat→Key→Prop),Ok w (own0 β) (E1 S β m0.length ω) w m0→vs.size=args.length→(∀ (i:Nat) (p:PV),args[i]?=some p→∃ x,vs[i]?=some x∧Rep w (E1 S β m0.length ω) p x)→
  Calls P f vs w fun e w'=>∃ v E',e=.returned v∧Ok w (own0 β) E' w' m1∧(∀ b,S b→E'.S b)∧(∀ b,E'.S b→S b∨w.heap.size≤b∨own0 β b)∧((∀ l B,l<m0.length→E'.β l=some B→β l=some B)∧∀ b q,E'.ω b q→ω b q∨w.heap.size≤b∨own0 β b)∧Rep w' E' r v
abbrev CallOk (P:Program) (f:FuncId) (args:List PV) (r:PV) (m':Mem):Prop:=CallM P f args [] r m'
section
set_option linter.unusedVariables false
set_option linter.unusedSimpArgs false
variable {w:World} {O:Nat→Prop} {E:Env} {w0:World} {m:Mem} {P:Program}
def ZmK (P:Program) (E:Env) (w:World) (a:Act) (o:Oper) (p:PV):Prop:=
 ∃ x,(execOp a.eval o).run P w=.ok (.value x) w∧Rep w E p x
def Zie:List (List PV)→Option (List Int)
 | []=>some []
 | [.v (.int .u8 n)]::rest=>(Zie rest).map (n::·)
 | _=>none
theorem Zif:∀ {es:List (List PV)} {ns:List Int},Zie es=some ns→ns.length=es.length∧∀ i,i<es.length→es[i]?=some [.v (.int .u8 (ns.getD i 0))]
 | [],ns,h=>by simp only [Zie,Option.some.injEq] at h; subst h; simp
 | e::es,ns,h=>by
  unfold Zie at h
  split at h
  ·cases (by assumption:(e::es)=[])
  ·rename_i n rest heq
   simp only [List.cons.injEq] at heq
   obtain ⟨rfl,rfl⟩:=heq
   obtain ⟨ms,hms,rfl⟩:=Option.map_eq_some_iff.1 h
   obtain ⟨h1,h2⟩:=Zif hms
   refine ⟨by simp [h1],fun i hi=>?_⟩
   cases i with
   | zero=>rfl
   | succ i=>simpa using h2 i (by simpa using hi)
  ·cases h
def pConvM (P:Program) (m:Mem) (s d:TypeId) (x:PV) (K:PV→Prop):Prop:=
 match x with
 | .ms l=>match P.underlying s,P.underlying d with
  | some (.slice e),some .string=>P.underlying e=some (.int .u8)∧live m l fun mb=>mb.k=1∧match Zie mb.es with
   | some ns=>K (.v (.string (strOfNums ns)))
   | none=>False
  | _,_=>False
 | x=>ZkL P s d x K
theorem ZjU (hk:Ok w0 O E w m) {s d:TypeId} {p:PV} {x:Value} (hx:Rep w E p x) {K:PV→Prop} (h:pConvM P m s d p K):∃ r v,K r∧(convert s d x).run P w=.ok v w∧Rep w E r v:=by
 unfold pConvM at h
 split at h
 ·rename_i l
  split at h
  ·rename_i e hs hd
   obtain ⟨he,h⟩:=h
   obtain ⟨mb,hm,hk1,h⟩:=Zb4 h
   split at h
   ·rename_i ns hns
    obtain ⟨B,hB,hb,rfl⟩:=hx.ms_inv hk hm
    obtain ⟨hl,hget⟩:=Zif hns
    cases hz:B.z with
    | true=>
     have h0:=hb.nil hz
     rw [h0] at hns
     simp only [Zie,Option.some.injEq] at hns
     subst hns
     refine ⟨_,.string (strOfNums []),h,?_,.c (.v _ rfl)⟩
     rw [show B.sv=.slice none 0 0 by simp [Blk.sv,hz]]
     exact run_convert_bytes_nil w s e hs he 0 0 d hd
    | false=>
     obtain ⟨cells,m1,m2,m3⟩:=hb.mem hz
     have hk':B.k=1:=hb.k.trans hk1
     refine ⟨_,.string (strOfNums ns),h,?_,.c (.v _ rfl)⟩
     rw [show B.sv=.slice (some ⟨B.b,0,none⟩) B.n B.c by simp [Blk.sv,hz]]
     refine run_convert_bytes_arg w s e hs he B.b 0 B.n B.c ns (by rw [hl,hb.n]) (fun i hi=>?_) d hd
     rw [hb.n] at hi
     obtain ⟨y,y1,_,y3⟩:=m3 i _ 0 _ (hget i hi) rfl
     rw [hk'] at y1
     rw [cell_of_row w B.b _ cells B.T (0,0) m1,Nat.zero_add]
     rw [y3.v_inv.1] at y1
     simpa using y1
   ·exact h.elim
  ·exact h.elim
 ·obtain ⟨r,v,h1,h2,h3⟩:=ZkM hx h
  exact ⟨r,v,h1,h2 w,h3⟩
def pMinMax (mx:Bool) (ps:List PV) (K:PV→Prop):Prop:=
 match ps with
 | [.v (.int k a),.v (.int k' b)]=>if mx then K (.v (.int k (if b > a then b else a))) else K (.v (.int k (if b<a then b else a)))
 | _=>False
def popR (P:Program) (o:Op) (t:List PV) (m:Mem) (K:PV→Prop):Prop:=
 match o with
 | .move x=>K (evP t x)
 | .assign x=>K (evP t x)
 | .pick c x y=>match evP t c with
  | .v (.bool b)=>K (if b then evP t x else evP t y)
  | _=>False
 | .load T a=>pLoad P T (rdp m (evP t a)) K
 | .nilCheck x=>pNil m (evP t x) K
 | .binOp op T x y _=>pBin P op T (evP t x) (evP t y) K
 | .unOp op _ x=>pUn op (evP t x) K
 | .convert s d x=>pConvM P m s d (evP t x) K
 | .makeFunc fn first cs=>match fn,first.toList with
  | .func f,[]=>K (.fn f (cs.toList.map (evP t)))
  | _,_=>False
 | .slice T x lo hi mx=>match mx with
  | none=>pSlice P m T (evP t x) (lo.map (evP t)) (hi.map (evP t)) K
  | some _=>False
 | .fieldAddr S x f=>pFieldAddr P m S (evP t x) f K
 | .field T x f=>pField P T (evP t x) f K
 | .indexAddr T x i=>pIndexAddr P m T (evP t x) (evP t i) K
 | .index T x i=>pIndex P T (evP t x) (evP t i) K
 | .extract x i=>pExt i (evP t x) K
 | .build T ps=>pBuild P T (ps.toList.map fun q=>(q.1,evP t q.2)) K
 | .call c=>match c.callee with
  | .builtin .len=>match c.args.toList,c.argTypes.toList with
   | [x],[T]=>pLen P m T (evP t x) K
   | _,_=>False
  | .builtin .min=>pMinMax false (c.args.toList.map (evP t)) K
  | .builtin .max=>pMinMax true (c.args.toList.map (evP t)) K
  | _=>False
 | _=>False
theorem Zph {s:Sem Value} {x:Value} {w w':World} (h:s.run P w=.ok x w'):(do pure (Next.value (← s)):Sem Next).run P w=.ok (.value x) w':=by
 simp only [Sem.run_bind,h,Result.andThen_ok,Sem.run_pure]
theorem Zja {α:Type} {a:Array α} {x:α} (h:a.toList=[x]):a=#[x]:=Array.ext' (by simpa using h)
theorem ZfU {α:Type} {a:Array α} {x y:α} (h:a.toList=[x,y]):a=#[x,y]:=Array.ext' (by simpa using h)
theorem Zmw (hk:Ok w0 O E w m) {t:List PV} {a:Act} (ht:RepT w E t a.tmps) {o:Oper} {K:PV→Prop} (h:popR P o.op t m K):∃ p,K p∧ZmK P E w a o p:=by
 have ev:=evP_rep ht
 have fin:∀ {s:Sem Value},(∃ r v,K r∧(∀ w',s.run P w'=.ok v w')∧Rep w E r v)→(execOp a.eval o=do pure (Next.value (← s)))→∃ p,K p∧ZmK P E w a o p:=by
  intro s ⟨r,v,hK,hrun,hrep⟩ he
  exact ⟨r,hK,v,by rw [he]; exact Zph (hrun w),hrep⟩
 unfold popR at h
 split at h
 ·rename_i x ho
  exact ⟨_,h,a.eval x,by simp [execOp,ho],ev x⟩
 ·rename_i x ho
  exact ⟨_,h,a.eval x,by simp [execOp,ho],ev x⟩
 ·rename_i c x y ho
  split at h
  ·rename_i b hc
   have h1:=ev c
   rw [hc] at h1
   have h2:=h1.v_inv.1
   refine ⟨_,h,if b then a.eval x else a.eval y,by cases b <;> simp [execOp,ho,h2,asBool],?_⟩
   cases b
   ·exact ev y
   ·exact ev x
  ·exact h.elim
 ·rename_i T x ho
  cases hp:rdp m (evP t x) with
  | none=>rw [hp] at h; unfold pLoad at h; split at h <;> first | exact h.elim | simp_all
  | some cs=>
   rw [hp] at h
   obtain ⟨b,off,hx,hb,hc⟩:=rdp_rep hk (ev x) hp
   obtain ⟨p,v,hK,hrun,hrep⟩:=pLoad_mem h hb hc
   exact ⟨p,hK,v,by simp only [execOp,ho,hx]; exact Zph (by simp only [Instr.loadAt,Instr.sureAddr,Sem.run_bind,Sem.run_pure,Result.andThen_ok]; exact hrun w (Up.rfl' w)),hrep⟩
 ·rename_i x ho
  unfold pNil at h
  split at h
  ·rename_i l i oo hx
   obtain ⟨mb,hm,hK⟩:=Zb4 h
   have h1:=ev x
   rw [hx] at h1
   obtain ⟨B,hB,hb,hz,e⟩:=h1.be_inv hk hm
   exact ⟨_,hK,a.eval x,by simp [execOp,ho,e],h1⟩
  ·rename_i cs hx
   have h1:=ev x
   rw [hx] at h1
   have h2:∃ b off,a.eval x=.pointer (some ⟨b,off,none⟩):=by
    generalize a.eval x=v at h1
    cases h1.rp_inv with
    | rp _ b off=>exact ⟨b,off,rfl⟩
   obtain ⟨b,off,h2⟩:=h2
   exact ⟨_,h,a.eval x,by simp [execOp,ho,h2],h1⟩
  ·exact h.elim
 ·rename_i op T x y Ty ho
  exact fin (Zmo (ox:=x) (oy:=y) (ev x) (ev y) h) (by simp only [execOp,ho])
 ·rename_i op T x ho
  exact fin (ZnW (ev x) h) (by simp only [execOp,ho])
 ·rename_i s d x ho
  obtain ⟨r,v,hK,hrun,hrep⟩:=ZjU hk (ev x) h
  exact ⟨r,hK,v,by simp only [execOp,ho]; exact Zph hrun,hrep⟩
 ·rename_i fn first cs ho
  split at h
  ·rename_i f hf
   have hfe:first=#[]:=Array.ext' (by simpa using hf)
   subst hfe
   refine ⟨_,h,.func (.func f) #[] (cs.map a.eval),by simp [execOp,ho,Instr.makeFunc],.fn f _ _ (by simp) fun j p x hp hx=>?_⟩
   rw [List.getElem?_map] at hp
   rw [Array.getElem?_map] at hx
   cases hq:cs[j]? with
   | none=>simp [hq] at hx
   | some q=>
    rw [Array.getElem?_toList,hq] at hp
    rw [hq] at hx
    simp only [Option.map_some,Option.some.injEq] at hp hx
    rw [← hp,← hx]
    exact ev q
  ·exact h.elim
 ·rename_i T x lo hi mx ho
  split at h
  ·refine fin (ZjY hk (vlo:=lo.map a.eval) (vhi:=hi.map a.eval) (ev x) ?_ ?_ ?_ ?_ h) (by simp only [execOp,ho,Option.map_none])
   ·intro p hp; cases lo with
    | none=>cases hp
    | some z=>simp only [Option.map_some,Option.some.injEq] at hp; exact ⟨a.eval z,rfl,hp ▸ ev z⟩
   ·intro hp; cases lo with
    | none=>rfl
    | some z=>cases hp
   ·intro p hp; cases hi with
    | none=>cases hp
    | some z=>simp only [Option.map_some,Option.some.injEq] at hp; exact ⟨a.eval z,rfl,hp ▸ ev z⟩
   ·intro hp; cases hi with
    | none=>rfl
    | some z=>cases hp
  ·exact h.elim
 ·rename_i S x f ho
  exact fin (ZgT hk (ev x) h) (by simp only [execOp,ho])
 ·rename_i T x f ho
  exact fin (ZjV (ev x) h) (by simp only [execOp,ho])
 ·rename_i T x i ho
  exact fin (ZgV hk (ev x) (ev i) h) (by simp only [execOp,ho])
 ·rename_i T x i ho
  exact fin (ZjW (ev x) (ev i) h) (by simp only [execOp,ho])
 ·rename_i x i ho
  exact fin (Zmq (ev x) h) (by simp only [execOp,ho])
 ·rename_i T ps ho
  refine fin (ZjS (vs:=ps.map fun (i,x)=>(i,a.eval x)) (by simp) (fun j i p hj=>?_) h) (by simp only [execOp,ho])
  rw [List.getElem?_map] at hj
  cases hq:ps.toList[j]? with
  | none=>rw [hq] at hj; cases hj
  | some q=>
   rw [hq] at hj
   simp only [Option.map_some,Option.some.injEq,Prod.mk.injEq] at hj
   obtain ⟨rfl,rfl⟩:=hj
   rw [Array.getElem?_toList] at hq
   exact ⟨a.eval q.2,by simp [hq],ev q.2⟩
 ·rename_i c ho
  split at h
  ·rename_i hc
   split at h
   ·rename_i x T hx hT
    obtain ⟨callee,args,argTypes⟩:=c
    have ha:=Zja hx
    have hTs:=Zja hT
    simp only at hc ha hTs
    subst hc ha hTs
    obtain ⟨r,v,hK,hrun,hrep⟩:=Zms (ty:=o.type) hk (ev x) h
    exact ⟨r,hK,v,by simp [execOp,ho,resolve,invoke,builtin,hrun],hrep⟩
   ·exact h.elim
  ·rename_i hc
   unfold pMinMax at h
   split at h
   ·rename_i k a1 k' b1 hargs
    obtain ⟨callee,args,argTypes⟩:=c
    simp only at hc hargs
    subst hc
    obtain ⟨x,l,e1,hx,e2⟩:=List.map_eq_cons_iff.1 hargs
    obtain ⟨y,l2,e3,hy,e4⟩:=List.map_eq_cons_iff.1 e2
    rw [List.map_eq_nil_iff.1 e4] at e3
    rw [e3] at e1
    have ha:=ZfU e1
    subst ha
    have vx:=ev x; rw [hx] at vx
    have vy:=ev y; rw [hy] at vy
    have vx:=vx.v_inv.1
    have vy:=vy.v_inv.1
    exact ⟨_,h,.int k (if b1<a1 then b1 else a1),by simp [execOp,ho,resolve,invoke,builtin,vx,vy,run_min_int2],.c (.v _ rfl)⟩
   ·exact h.elim
  ·rename_i hc
   unfold pMinMax at h
   split at h
   ·rename_i k a1 k' b1 hargs
    obtain ⟨callee,args,argTypes⟩:=c
    simp only at hc hargs
    subst hc
    obtain ⟨x,l,e1,hx,e2⟩:=List.map_eq_cons_iff.1 hargs
    obtain ⟨y,l2,e3,hy,e4⟩:=List.map_eq_cons_iff.1 e2
    rw [List.map_eq_nil_iff.1 e4] at e3
    rw [e3] at e1
    have ha:=ZfU e1
    subst ha
    have vx:=ev x; rw [hx] at vx
    have vy:=ev y; rw [hy] at vy
    have vx:=vx.v_inv.1
    have vy:=vy.v_inv.1
    exact ⟨_,h,.int k (if b1 > a1 then b1 else a1),by simp [execOp,ho,resolve,invoke,builtin,vx,vy,run_max_int2],.c (.v _ rfl)⟩
   ·exact h.elim
  ·exact h.elim
 ·exact h.elim
def Zgl (m:Mem) (p:PV) (K:PV→Prop):Prop:=
 match p with
 | .ms l=>live m l fun mb=>K (@ite PV (∀ cs∈mb.es,∀ q∈cs,isC q=true) (Classical.propDecidable _) (.sl mb.es) .un)
 | .ss l a b=>live m l fun mb=>(∀ cs∈mb.es,∀ q∈cs,isC q=true)∧K (.sl ((mb.es.drop a).take (b-a)))
 | .v x=>K (.v x)
 | .sl es=>K (.sl es)
 | .rp cs=>K (.rp cs)
 | .un=>K .un
 | .ud=>K .ud
 | _=>False
def ZgW (m:Mem):List PV→(List PV→Prop)→Prop
 | [],K=>K []
 | c::cs,K=>Zgl m c fun c'=>ZgW m cs fun cs'=>K (c'::cs')
def ZgX (m:Mem) (p:PV) (K:PV→Prop):Prop:=
 match p with
 | .ag cs=>ZgW m cs fun cs'=>K (.ag cs')
 | p=>Zgl m p K
def snapA (m:Mem):List PV→(List PV→Prop)→Prop
 | [],K=>K []
 | c::cs,K=>ZgX m c fun c'=>snapA m cs fun cs'=>K (c'::cs')
def Sall (E:Env) (b:Nat):Prop:=E.S b∨own0 E.β b
theorem RepC.all {S S':Nat→Prop} {p:PV} {x:Value} (h:RepC w S p x) (hS:∀ b,S b→S' b):RepC w S' p x:=h.ext hS fun _ _ _=>rfl
theorem Rep.toC1 {p:PV} {x:Value} (h:Rep w E p x) (hc:isC1 p=true):RepC w E.S p x:=by
 cases h with
 | c h=>exact h
 | _=>simp [isC1] at hc
theorem Rep.toC {p:PV} {x:Value} (h:Rep w E p x) (hc:isC p=true):RepC w E.S p x:=by
 cases h with
 | c h=>exact h
 | fn f cs vs hl hr=>
  simp only [isC,List.all_eq_true] at hc
  exact .fn f cs vs hl fun j p x hp hx=>(hr j p x hp hx).toC1 (hc p (List.mem_of_getElem? hp))
 | _=>simp [isC,isC1] at hc
theorem row_part {B:Blk} {l:Nat} {mb:MB} (hB:E.β l=some B) (hb:Zaz w E mb B) (hcl:∀ cs∈mb.es,∀ q∈cs,isC q=true) {S:Nat→Prop} (hS:∀ b,E.S b→S b) (hSB:B.z=false→S B.b) {a b:Nat} (hab:a≤b) (hbn:b≤B.n) {A:Option Addr} {c:Nat}
 (hA:a<b→B.z=false∧A=some ⟨B.b,a*B.k,none⟩∧b-a≤c∧c≤maxLen):RepC w S (.sl ((mb.es.drop a).take (b-a))) (.slice A (b-a) c):=by
 have hel:((mb.es.drop a).take (b-a)).length=b-a:=by rw [List.length_take,List.length_drop,← hb.n]; omega
 rcases Nat.lt_or_ge a b with hlt | hge
 ·obtain ⟨hz,rfl,hc1,hc2⟩:=hA hlt
  obtain ⟨cells,m1,m2,m3⟩:=hb.mem hz
  have get:∀ {i:Nat} {cs:List PV},((mb.es.drop a).take (b-a))[i]?=some cs→mb.es[a+i]?=some cs:=by
   intro i cs hi
   rw [List.getElem?_take] at hi
   split at hi
   ·rwa [List.getElem?_drop] at hi
   ·cases hi
  have hex:∀ ij:Nat × Nat,∃ u:Value,∀ cs p,mb.es[a+ij.1]?=some cs→cs[ij.2]?=some p→cells[(a+ij.1)*B.k+ij.2]?=some u∧u.oneCell'=true∧RepC w S p u:=by
   intro ⟨i,j⟩
   cases hi:mb.es[a+i]? with
   | none=>exact ⟨undef,fun cs p h=>by simp [hi] at h⟩
   | some cs=>
    cases hj:cs[j]? with
    | none=>exact ⟨undef,fun cs' p h h'=>by simp only [hi,Option.some.injEq] at h; subst h; simp [hj] at h'⟩
    | some p=>
     obtain ⟨u,u1,u2,u3⟩:=m3 _ cs j p hi hj
     refine ⟨u,fun cs' p' h h'=>?_⟩
     simp only [hi,Option.some.injEq] at h
     subst h
     simp only [hj,Option.some.injEq] at h'
     subst h'
     exact ⟨u1,u2,(u3.toC (hcl cs (List.mem_of_getElem? hi) p (List.mem_of_getElem? hj))).all hS⟩
  obtain ⟨f,hf⟩:=Classical.axiomOfChoice hex
  have key:=RepC.sl (w:=w) (S:=S) ((mb.es.drop a).take (b-a)) B.b (a*B.k) B.k c (fun i j=>f (i,j)) (hSB hz) hb.pos (by rw [hel]; exact hc1) hc2 (fun i cs hi=>hb.es _ cs (get hi))
   (fun i cs j p hi hj=>by
    have:=(hf (i,j) cs p (get hi) hj).1
    rw [cell_of_row w B.b _ cells B.T (0,0) m1,← this]
    congr 1
    simp only [Nat.add_mul]) (fun i cs j p hi hj=>(hf (i,j) cs p (get hi) hj).2.1) fun i cs j p hi hj=>(hf (i,j) cs p (get hi) hj).2.2
  rwa [hel] at key
 ·have hba:b-a=0:=by omega
  rw [hba,List.take_zero]
  exact .nil _ _
theorem ZqQ {B:Blk} {mb:MB} (hb:Zaz w E mb B):∃ A c,B.sv=.slice A B.n c∧(0<B.n→B.z=false∧A=some ⟨B.b,0,none⟩∧B.n≤c∧c≤maxLen):=by
 cases hz:B.z with
 | true=>exact ⟨none,0,by simp [Blk.sv,hz,hb.n,hb.nil hz],fun h=>by rw [hb.n,hb.nil hz] at h; simp at h⟩
 | false=>exact ⟨_,_,by simp [Blk.sv,hz],fun _=>⟨rfl,rfl,hb.nc,hb.cm⟩⟩
theorem row_all {B:Blk} {l:Nat} {mb:MB} (hB:E.β l=some B) (hb:Zaz w E mb B) (hcl:∀ cs∈mb.es,∀ q∈cs,isC q=true) {S:Nat→Prop} (hS:∀ b,E.S b→S b) (hSB:B.z=false→S B.b):RepC w S (.sl mb.es) B.sv:=by
 obtain ⟨A,c,hsv,hA⟩:=ZqQ hb
 have:=row_part hB hb hcl hS hSB (a:=0) (b:=B.n) (Nat.zero_le _) (Nat.le_refl _) (A:=A) (c:=c) (by simpa using hA)
 rw [hsv]
 simpa [hb.n] using this
theorem Zj7 (hk:Ok w0 O E w m) {p:PV} {x:Value} (hx:Rep w E p x) {K:PV→Prop} (h:Zgl m p K):∃ q,K q∧RepC w (Sall E) q x∧isC q=true:=by
 unfold Zgl at h
 split at h
 ·rename_i l
  obtain ⟨mb,hm,hK⟩:=Zb4 h
  by_cases hcl:∀ cs∈mb.es,∀ q∈cs,isC q=true
  ·rw [if_pos hcl] at hK
   obtain ⟨B,hB,hb,rfl⟩:=hx.ms_inv hk hm
   exact ⟨_,hK,row_all hB hb hcl (fun b hb=>.inl hb) fun hz=>.inr ⟨l,B,hB,hz,rfl⟩,rfl⟩
  ·rw [if_neg hcl] at hK
   exact ⟨_,hK,.un x,rfl⟩
 ·rename_i l a b
  obtain ⟨mb,hm,hcl,hK⟩:=Zb4 h
  obtain ⟨B,hB,hb,A,c,rfl,hab,hbn,hA⟩:=hx.ss_inv hk hm
  exact ⟨_,hK,row_part hB hb hcl (fun b hb=>.inl hb) (fun hz=>.inr ⟨l,B,hB,hz,rfl⟩) hab hbn hA,rfl⟩
 ·exact ⟨_,h,(hx.toC rfl).all fun b hb=>.inl hb,rfl⟩
 ·exact ⟨_,h,(hx.toC rfl).all fun b hb=>.inl hb,rfl⟩
 ·exact ⟨_,h,(hx.toC rfl).all fun b hb=>.inl hb,rfl⟩
 ·exact ⟨_,h,(hx.toC rfl).all fun b hb=>.inl hb,rfl⟩
 ·exact ⟨_,h,(hx.toC rfl).all fun b hb=>.inl hb,rfl⟩
 ·exact h.elim
def RepA (w:World) (S:Nat→Prop) (q:PV) (x:Value):Prop:=∀ β n ω,Rep w (E1 S β n ω) q x
theorem Zj8 (hk:Ok w0 O E w m):∀ (cs:List PV) (vs:List Value) (K:List PV→Prop),vs.length=cs.length→(∀ (j:Nat) (p:PV) (x:Value),cs[j]?=some p→vs[j]?=some x→Rep w E p x)→ZgW m cs K→
 ∃ ds,K ds∧ds.length=cs.length∧∀ (j:Nat) (q:PV) (x:Value),ds[j]?=some q→vs[j]?=some x→RepC w (Sall E) q x
 | [],[],K,_,_,h=>⟨[],h,rfl,by simp⟩
 | [],_::_,_,hl,_,_=>by simp at hl
 | _::_,[],_,hl,_,_=>by simp at hl
 | c::cs,v::vs,K,hl,hr,h=>by
  obtain ⟨q,hK,hq,_⟩:=Zj7 hk (hr 0 c v rfl rfl) h
  obtain ⟨ds,hK',hdl,hd⟩:=Zj8 hk cs vs _ (by simpa using hl) (fun j p x hp hx=>hr (j+1) p x (by simpa using hp) (by simpa using hx)) hK
  refine ⟨q::ds,hK',by simp [hdl],fun j q' x hj hx=>?_⟩
  cases j with
  | zero=>simp only [List.getElem?_cons_zero,Option.some.injEq] at hj hx; subst hj hx; exact hq
  | succ j=>exact hd j q' x (by simpa using hj) (by simpa using hx)
theorem Zoh (hk:Ok w0 O E w m) {p:PV} {x:Value} (hx:Rep w E p x) {K:PV→Prop} (h:ZgX m p K):∃ q,K q∧RepA w (Sall E) q x:=by
 unfold ZgX at h
 split at h
 ·rename_i cs
  obtain ⟨vs,rfl,hl,h1,hr⟩:=hx.ag_inv
  obtain ⟨ds,hK,hdl,hd⟩:=Zj8 hk cs vs.toList _ (by simpa using hl) (fun j p x hp hx=>hr j p x hp (by simpa using hx)) h
  exact ⟨_,hK,fun β n ω=>.ag ds vs (by rw [hl,hdl]) h1 fun j p x hp hx=>.c (hd j p x hp (by simpa using hx))⟩
 ·obtain ⟨q,hK,hq,_⟩:=Zj7 hk hx h
  exact ⟨q,hK,fun β n ω=>.c hq⟩
theorem Zj6 (hk:Ok w0 O E w m):∀ (cs:List PV) (vs:List Value) (K:List PV→Prop),vs.length=cs.length→(∀ (j:Nat) (p:PV) (x:Value),cs[j]?=some p→vs[j]?=some x→Rep w E p x)→snapA m cs K→
 ∃ ds,K ds∧ds.length=cs.length∧∀ (j:Nat) (q:PV) (x:Value),ds[j]?=some q→vs[j]?=some x→RepA w (Sall E) q x
 | [],[],K,_,_,h=>⟨[],h,rfl,by simp⟩
 | [],_::_,_,hl,_,_=>by simp at hl
 | _::_,[],_,hl,_,_=>by simp at hl
 | c::cs,v::vs,K,hl,hr,h=>by
  obtain ⟨q,hK,hq⟩:=Zoh hk (hr 0 c v rfl rfl) h
  obtain ⟨ds,hK',hdl,hd⟩:=Zj6 hk cs vs _ (by simpa using hl) (fun j p x hp hx=>hr (j+1) p x (by simpa using hp) (by simpa using hx)) hK
  refine ⟨q::ds,hK',by simp [hdl],fun j q' x hj hx=>?_⟩
  cases j with
  | zero=>simp only [List.getElem?_cons_zero,Option.some.injEq] at hj hx; subst hj hx; exact hq
  | succ j=>exact hd j q' x (by simpa using hj) (by simpa using hx)
end
end Go.Proofs.YtmcdjilbkmhfoaaGreat
namespace Go.Proofs.YtmcdjilbkmhfoaaGreat
set_option maxRecDepth 10000
open Go.RowKit
set_option linter.unusedVariables false
set_option linter.unusedSimpArgs false
def ren1 (σ:Nat→Nat):PV→PV
 | .ms l=>.ms (σ l)
 | .ss l a b=>.ss (σ l) a b
 | .be l i o=>.be (σ l) i o
 | p=>p
def renC (σ:Nat→Nat):PV→PV
 | .fn f cs=>.fn f (cs.map (ren1 σ))
 | p=>ren1 σ p
def renA (σ:Nat→Nat):PV→PV
 | .ag cs=>.ag (cs.map (renC σ))
 | p=>renC σ p
def renV (σ:Nat→Nat):PV→PV
 | .tu vs=>.tu (vs.map (renA σ))
 | p=>renA σ p
def renEs (σ:Nat→Nat) (es:List (List PV)):List (List PV):=es.map (·.map (renC σ))
def renMB (σ:Nat→Nat) (mb:MB):MB:=⟨mb.T,mb.k,renEs σ mb.es⟩
def isR:PV→Bool
 | .ag _ | .tu _ | .fn _ _=>false
 | _=>true
def goodC (flat:Bool):PV→Prop
 | .fn _ cs=>flat=false∧∀ c∈cs,isR c=true
 | p=>flat=true→isF p=true
def goodA (flat:Bool):PV→Prop
 | .ag cs=>∀ c∈cs,goodC flat c
 | .tu _=>False
 | p=>goodC flat p
def goodV (flat:Bool):PV→Prop
 | .tu vs=>∀ v∈vs,goodA flat v
 | p=>goodA flat p
theorem ZqF {σ:Nat→Nat} {p:PV} {es:List (List PV)} (h:renC σ p=.sl es):p=.sl es:=by
 unfold renC at h
 split at h
 ·cases h
 ·rename_i q _
  cases p <;> simp [ren1] at h ⊢ <;> exact h
theorem RepC.flat {w:World} {S S':Nat→Prop} {p:PV} {x:Value} (hF:isF p=true) (h:RepC w S p x):RepC w S' p x:=by
 cases h with
 | v x h=>exact .v x h
 | ud=>exact .ud
 | un x=>exact .un x
 | _=>simp [isF] at hF
section
variable {w':World} {E' E2:Env} {σ:Nat→Nat} {flat:Bool}
theorem ZlX (hβ:∀ l B,E'.used l→E2.β (σ l)=some B→E'.β l=some B) (hu:∀ l,E'.used l→E2.used (σ l)) (hS:∀ p x,(flat=true→isF p=true)→RepC w' E'.S p x→RepC w' E2.S p x) {p:PV} {x:Value}
 (h:Rep w' E' p x) (hp:isR p=true) (hG:flat=true→isF p=true):Rep w' E2 (ren1 σ p) x:=by
 cases h with
 | c h=>
  have:ren1 σ p=p:=by cases h <;> rfl
  rw [this]
  exact .c (hS p x hG h)
 | ms l _ hl h1 h=>exact .ms _ _ (hu l hl) h1 fun B hB=>h B (hβ l B hl hB)
 | ss l a b _ hl h1 h=>exact .ss _ _ _ _ (hu l hl) h1 fun B hB=>h B (hβ l B hl hB)
 | be l i o _ hl h1 h=>exact .be _ _ _ _ (hu l hl) h1 fun B hB=>h B (hβ l B hl hB)
 | ag cs=>simp [isR] at hp
 | tu cs=>simp [isR] at hp
 | fn f cs=>simp [isR] at hp
theorem ZiV (hβ:∀ l B,E'.used l→E2.β (σ l)=some B→E'.β l=some B) (hu:∀ l,E'.used l→E2.used (σ l)) (hS:∀ p x,(flat=true→isF p=true)→RepC w' E'.S p x→RepC w' E2.S p x) {p:PV} {x:Value}
 (h:Rep w' E' p x) (hp:goodC flat p) (hna:∀ cs,p≠.ag cs) (hnt:∀ cs,p≠.tu cs):Rep w' E2 (renC σ p) x:=by
 cases p with
 | fn f cs=>
  obtain ⟨hfl,hcs⟩:=hp
  obtain ⟨vs,rfl,hl,hr⟩:=h.fn_inv
  refine .fn f _ vs (by simp [hl]) fun j q x hq hx=>?_
  rw [List.getElem?_map] at hq
  cases hc:cs[j]? with
  | none=>simp [hc] at hq
  | some c=>
   simp only [hc,Option.map_some,Option.some.injEq] at hq
   subst hq
   exact ZlX hβ hu hS (hr j c x hc hx) (hcs c (List.mem_of_getElem? hc)) (fun h=>by rw [hfl] at h; cases h)
 | ag cs=>exact absurd rfl (hna cs)
 | tu cs=>exact absurd rfl (hnt cs)
 | _=>exact ZlX hβ hu hS h rfl hp
theorem ZlY (hβ:∀ l B,E'.used l→E2.β (σ l)=some B→E'.β l=some B) (hu:∀ l,E'.used l→E2.used (σ l)) (hS:∀ p x,(flat=true→isF p=true)→RepC w' E'.S p x→RepC w' E2.S p x) {p:PV} {x:Value}
 (h:Rep w' E' p x) (hp:goodA flat p):Rep w' E2 (renA σ p) x:=by
 cases p with
 | ag cs=>
  obtain ⟨vs,rfl,hl,h1,hr⟩:=h.ag_inv
  refine .ag _ vs (by simp [hl]) h1 fun j q x hq hx=>?_
  rw [List.getElem?_map] at hq
  cases hc:cs[j]? with
  | none=>simp [hc] at hq
  | some c=>
   simp only [hc,Option.map_some,Option.some.injEq] at hq
   subst hq
   have hrc:=hr j c x hc hx
   have hone:=h1 j x hx
   refine ZiV hβ hu hS hrc (hp c (List.mem_of_getElem? hc)) (fun cs e=>?_) (fun cs e=>?_)
   ·subst e; obtain ⟨_,rfl,_⟩:=hrc.ag_inv; simp [Value.oneCell'] at hone
   ·subst e; obtain ⟨_,rfl,_⟩:=hrc.tu_inv; simp [Value.oneCell'] at hone
 | tu vs=>exact hp.elim
 | _=>exact ZiV hβ hu hS h hp (by simp) (by simp)
theorem Zpa (hβ:∀ l B,E'.used l→E2.β (σ l)=some B→E'.β l=some B) (hu:∀ l,E'.used l→E2.used (σ l)) (hS:∀ p x,(flat=true→isF p=true)→RepC w' E'.S p x→RepC w' E2.S p x) {p:PV} {x:Value}
 (h:Rep w' E' p x) (hp:goodV flat p):Rep w' E2 (renV σ p) x:=by
 cases p with
 | tu ps=>
  obtain ⟨vs,rfl,hl,hr⟩:=h.tu_inv
  refine .tu _ vs (by simp [hl]) fun j q x hq hx=>?_
  rw [List.getElem?_map] at hq
  cases hc:ps[j]? with
  | none=>simp [hc] at hq
  | some c=>
   simp only [hc,Option.map_some,Option.some.injEq] at hq
   subst hq
   exact ZlY hβ hu hS (hr j c x hc hx) (hp c (List.mem_of_getElem? hc))
 | _=>exact ZlY hβ hu hS h hp
end
/-! The other way round: what a callee is handed. -/
def low1 (n:Nat):PV→Bool
 | .ms l=>decide (l<n)
 | .ss l _ _=>decide (l<n)
 | .be l _ _=>decide (l<n)
 | _=>true
def lowC (n:Nat):PV→Bool
 | .fn _ cs=>cs.all (low1 n)
 | p=>low1 n p
def lowA (n:Nat):PV→Bool
 | .ag cs=>cs.all (lowC n)
 | p=>lowC n p
section
variable {w:World} {E:Env} {S:Nat→Prop} {β:Nat→Option Blk} {n:Nat} {σ:Nat→Nat}
theorem Zov {ω:Nat→Key→Prop} (hβ:∀ l B,β l=some B→E.β (σ l)=some B) (hS:∀ b,E.S b→S b) {p:PV} {x:Value} (h:Rep w E (ren1 σ p) x) (hp:isR p=true) (hlow:low1 n p=true):Rep w (E1 S β n ω) p x:=by
 cases p with
 | ms l=>
  cases h with
  | c h=>cases h
  | ms _ _ hl h1 h=>exact .ms _ _ (show _<n by simpa [low1] using hlow) h1 fun B hB=>h B (hβ l B hB)
 | ss l a b=>
  cases h with
  | c h=>cases h
  | ss _ _ _ _ hl h1 h=>exact .ss _ _ _ _ (show _<n by simpa [low1] using hlow) h1 fun B hB=>h B (hβ l B hB)
 | be l i o=>
  cases h with
  | c h=>cases h
  | be _ _ _ _ hl h1 h=>exact .be _ _ _ _ (show _<n by simpa [low1] using hlow) h1 fun B hB=>h B (hβ l B hB)
 | ag cs=>simp [isR] at hp
 | tu cs=>simp [isR] at hp
 | fn f cs=>simp [isR] at hp
 | v y=>cases h with | c h=>exact .c (h.all hS)
 | ud=>cases h with | c h=>exact .c (h.all hS)
 | un=>cases h with | c h=>exact .c (h.all hS)
 | sl es=>cases h with | c h=>exact .c (h.all hS)
 | rp cs=>cases h with | c h=>exact .c (h.all hS)
theorem Zk4 {ω:Nat→Key→Prop} (hβ:∀ l B,β l=some B→E.β (σ l)=some B) (hS:∀ b,E.S b→S b) {p:PV} {x:Value} (h:Rep w E (renC σ p) x) (hp:goodC false p) (hlow:lowC n p=true) (hna:∀ cs,p≠.ag cs) (hnt:∀ cs,p≠.tu cs):Rep w (E1 S β n ω) p x:=by
 cases p with
 | fn f cs=>
  obtain ⟨vs,rfl,hl,hr⟩:=h.fn_inv
  simp only [lowC,List.all_eq_true] at hlow
  refine .fn f _ vs (by simpa using hl) fun j q x hq hx=>?_
  exact Zov hβ hS (hr j (ren1 σ q) x (by simp [hq]) hx) (hp.2 q (List.mem_of_getElem? hq)) (hlow q (List.mem_of_getElem? hq))
 | ag cs=>exact absurd rfl (hna cs)
 | tu cs=>exact absurd rfl (hnt cs)
 | _=>exact Zov hβ hS h rfl hlow
theorem ZqV {ω:Nat→Key→Prop} (hβ:∀ l B,β l=some B→E.β (σ l)=some B) (hS:∀ b,E.S b→S b) {p:PV} {x:Value} (h:Rep w E (renA σ p) x) (hp:goodA false p) (hlow:lowA n p=true):Rep w (E1 S β n ω) p x:=by
 cases p with
 | ag cs=>
  obtain ⟨vs,rfl,hl,h1,hr⟩:=h.ag_inv
  simp only [lowA,List.all_eq_true] at hlow
  refine .ag _ vs (by simpa using hl) h1 fun j q x hq hx=>?_
  have hrc:=hr j (renC σ q) x (by simp [hq]) hx
  have hone:=h1 j x hx
  refine Zk4 hβ hS hrc (hp q (List.mem_of_getElem? hq)) (hlow q (List.mem_of_getElem? hq)) (fun cs e=>?_) (fun cs e=>?_)
  ·subst e; obtain ⟨_,rfl,_⟩:=Rep.ag_inv hrc; simp [Value.oneCell'] at hone
  ·subst e; obtain ⟨_,rfl,_⟩:=Rep.tu_inv hrc; simp [Value.oneCell'] at hone
 | tu vs=>exact hp.elim
 | _=>exact Zk4 hβ hS h hp hlow (by simp) (by simp)
end
def sig (ρ:List Nat) (ν:Nat) (i:Nat):Nat:=if i<ρ.length then ρ.getD i 0 else ν+(i-ρ.length)
def inRows (σ:Nat→Nat) (m:Mem) (n:Nat):List Nat→Mem→Prop
 | [],[]=>True
 | l::ρ,some mb0::m0=>m[l]?=some (some (renMB σ mb0))∧(∀ cs∈mb0.es,∀ p∈cs,goodC false p∧lowC n p=true)∧inRows σ m n ρ m0
 | _,_=>False
def putIn (σ:Nat→Nat):List Nat→Mem→Mem→Mem
 | l::ρ,r::m1,m=>putIn σ ρ m1 (m.set l (r.map (renMB σ)))
 | _,_,m=>m
def putNew (σ:Nat→Nat):Nat→Mem→Mem→Mem
 | _,[],m=>m
 | ν,some mb::m1,m=>putNew σ (ν+1) m1 (mput m ν (renMB σ mb))
 | ν,none::m1,m=>putNew σ (ν+1) m1 ((m++List.replicate (ν+1-m.length) none).set ν none)
theorem inRows_get {σ:Nat→Nat} {m:Mem} {n:Nat}:∀ {ρ:List Nat} {m0:Mem},inRows σ m n ρ m0→ρ.length=m0.length∧∀ (i l:Nat),ρ[i]?=some l→∃ mb0:MB,m0[i]?=some (some mb0)∧m[l]?=some (some (renMB σ mb0))∧∀ cs∈mb0.es,∀ p∈cs,goodC false p∧lowC n p=true
 | [],[],_=>⟨rfl,by simp⟩
 | [],_::_,h=>h.elim
 | _::_,[],h=>h.elim
 | l::ρ,none::m0,h=>h.elim
 | l::ρ,some mb0::m0,h=>by
  obtain ⟨h1,h2⟩:=inRows_get h.2.2
  refine ⟨by simp [h1],fun i l' hi=>?_⟩
  cases i with
  | zero=>
   obtain rfl:l=l':=by simpa using hi
   exact ⟨mb0,rfl,h.1,h.2.1⟩
  | succ i=>exact h2 i l' (by simpa using hi)
theorem Zj1 {σ:Nat→Nat}:∀ (ρ:List Nat) (m1 m:Mem),(putIn σ ρ m1 m).length=m.length
 | [],_,_=>by unfold putIn; rfl
 | _::_,[],_=>by unfold putIn; rfl
 | l::ρ,r::m1,m=>by unfold putIn; rw [Zj1]; simp
theorem ZiT {σ:Nat→Nat}:∀ (ρ:List Nat) (m1 m:Mem) (l:Nat),l ∉ ρ→(putIn σ ρ m1 m)[l]?=m[l]?
 | [],_,_,_,_=>by unfold putIn; rfl
 | _::_,[],_,_,_=>by unfold putIn; rfl
 | k::ρ,r::m1,m,l,hl=>by
  unfold putIn
  rw [ZiT ρ m1 _ l (fun h=>hl (List.mem_cons_of_mem _ h)),List.getElem?_set_ne (by rintro rfl; exact hl List.mem_cons_self)]
theorem Zj0 {σ:Nat→Nat}:∀ (ρ:List Nat) (m1 m:Mem),ρ.Nodup→(∀ l∈ρ,l<m.length)→ρ.length≤m1.length→∀ (i l:Nat),ρ[i]?=some l→(putIn σ ρ m1 m)[l]?=(m1[i]?).map (Option.map (renMB σ))
 | [],_,_,_,_,_,_,_,h=>by simp at h
 | _::_,[],_,_,_,hl,_,_,_=>by simp at hl
 | k::ρ,r::m1,m,hn,hlt,hl,i,l,hi=>by
  unfold putIn
  rw [List.nodup_cons] at hn
  cases i with
  | zero=>
   obtain rfl:k=l:=by simpa using hi
   rw [ZiT ρ m1 _ k hn.1,List.getElem?_set_self (hlt k List.mem_cons_self)]
   rfl
  | succ i=>
   rw [Zj0 ρ m1 _ hn.2 (fun l' hl'=>by rw [List.length_set]; exact hlt l' (List.mem_cons_of_mem _ hl')) (by simpa using hl) i l (by simpa using hi)]
   simp
theorem ZgD {σ:Nat→Nat}:∀ (ν:Nat) (m1 m:Mem),m.length≤(putNew σ ν m1 m).length∧∀ i,i<m1.length→ν+i<(putNew σ ν m1 m).length
 | ν,[],m=>by unfold putNew; simp
 | ν,some mb::m1,m=>by
  unfold putNew
  obtain ⟨h1,h2⟩:=ZgD (σ:=σ) (ν+1) m1 (mput m ν (renMB σ mb))
  rw [ZiR] at h1
  refine ⟨by omega,fun i hi=>?_⟩
  cases i with
  | zero=>omega
  | succ i=>have:=h2 i (by simpa using hi); omega
 | ν,none::m1,m=>by
  unfold putNew
  obtain ⟨h1,h2⟩:=ZgD (σ:=σ) (ν+1) m1 ((m++List.replicate (ν+1-m.length) none).set ν none)
  simp only [List.length_set,List.length_append,List.length_replicate] at h1
  refine ⟨by omega,fun i hi=>?_⟩
  cases i with
  | zero=>omega
  | succ i=>have:=h2 i (by simpa using hi); omega
theorem ZqB {m:Mem} {n l ν:Nat} {mb:MB} (h:((m++List.replicate n none).set ν none)[l]?=some (some mb)):m[l]?=some (some mb):=by
 rw [List.getElem?_set] at h
 split at h
 ·split at h <;> simp at h
 rcases Nat.lt_or_ge l m.length with h1 | h1
 ·rwa [List.getElem?_append_left h1] at h
 ·rw [List.getElem?_append_right h1,List.getElem?_replicate] at h
  split at h <;> simp at h
theorem ZgC {σ:Nat→Nat}:∀ (ν:Nat) (m1 m:Mem) (l:Nat) (mb:MB),(putNew σ ν m1 m)[l]?=some (some mb)→(∃ i mb1,l=ν+i∧m1[i]?=some (some mb1)∧mb=renMB σ mb1)∨m[l]?=some (some mb)
 | ν,[],m,l,mb,h=>by unfold putNew at h; exact .inr h
 | ν,some mb1::m1,m,l,mb,h=>by
  unfold putNew at h
  rcases ZgC (σ:=σ) (ν+1) m1 _ l mb h with ⟨i,mb2,rfl,h1,h2⟩ | h'
  ·exact .inl ⟨i+1,mb2,by omega,by simpa using h1,h2⟩
  ·by_cases hl:l=ν
   ·subst hl
    rw [Zfc] at h'
    exact .inl ⟨0,mb1,rfl,rfl,by simpa [eq_comm] using h'⟩
   ·exact .inr ((ZhN hl).1 h')
 | ν,none::m1,m,l,mb,h=>by
  unfold putNew at h
  rcases ZgC (σ:=σ) (ν+1) m1 _ l mb h with ⟨i,mb2,rfl,h1,h2⟩ | h'
  ·exact .inl ⟨i+1,mb2,by omega,by simpa using h1,h2⟩
  ·exact .inr (ZqB h')
def liveB (m:Mem) (l:Nat):Bool:=match m[l]? with
 | some (some _)=>true
 | _=>false
theorem liveB_iff {m:Mem} {l:Nat}:liveB m l=true↔∃ mb,m[l]?=some (some mb):=by
 unfold liveB
 split
 ·rename_i mb h; simp [h]
 ·rename_i h
  simp only [Bool.false_eq_true,false_iff]
  rintro ⟨mb,hm⟩
  exact h mb hm
theorem Zaz.renamed {w':World} {E' E2:Env} {σ:Nat→Nat} {flat:Bool} {mb:MB} {B:Blk} (h:Zaz w' E' mb B) (hg:∀ cs∈mb.es,∀ p∈cs,goodC flat p) (hβ:∀ l B,E'.used l→E2.β (σ l)=some B→E'.β l=some B) (hu:∀ l,E'.used l→E2.used (σ l))
 (hS:∀ p x,(flat=true→isF p=true)→RepC w' E'.S p x→RepC w' E2.S p x) (hω:flat=false→∀ b q,E'.ω b q→E2.ω b q):Zaz w' E2 (renMB σ mb) B:=by
 refine ⟨h.k,by rw [h.n]; simp [renMB,renEs],h.T,h.pos,h.nc,h.cm,fun i cs hi=>?_,fun hz=>by simp [renMB,renEs,h.nil hz],fun hz=>?_,fun T hT hz i cs j es x hi hj hne hc=>?_⟩
 ·simp only [renMB,renEs,List.getElem?_map] at hi
  obtain ⟨cs0,h0,rfl⟩:=Option.map_eq_some_iff.1 hi
  rw [List.length_map]; exact h.es i cs0 h0
 ·obtain ⟨cells,m1,m2,m3⟩:=h.mem hz
  refine ⟨cells,m1,m2,fun i cs j p hi hj=>?_⟩
  simp only [renMB,renEs,List.getElem?_map] at hi
  obtain ⟨cs0,h0,rfl⟩:=Option.map_eq_some_iff.1 hi
  rw [List.getElem?_map] at hj
  obtain ⟨p0,hp0,rfl⟩:=Option.map_eq_some_iff.1 hj
  obtain ⟨x,x1,x2,x3⟩:=m3 i cs0 j p0 h0 hp0
  refine ⟨x,x1,x2,ZiV hβ hu hS x3 (hg cs0 (List.mem_of_getElem? h0) p0 (List.mem_of_getElem? hp0)) (fun cs e=>?_) (fun cs e=>?_)⟩
  ·subst e; obtain ⟨_,rfl,_⟩:=x3.ag_inv; simp [Value.oneCell'] at x2
  ·subst e; obtain ⟨_,rfl,_⟩:=x3.tu_inv; simp [Value.oneCell'] at x2
 ·simp only [renMB,renEs,List.getElem?_map] at hi
  obtain ⟨cs0,h0,rfl⟩:=Option.map_eq_some_iff.1 hi
  rw [List.getElem?_map] at hj
  obtain ⟨p0,hp0,he⟩:=Option.map_eq_some_iff.1 hj
  obtain rfl:=ZqF he
  have hg0:=hg cs0 (List.mem_of_getElem? h0) _ (List.mem_of_getElem? hp0)
  cases hfl:flat with
  | true=>rw [hfl] at hg0; simp [goodC,isF] at hg0
  | false=>
   obtain ⟨b,c,k,cs1,a1,a2,a3⟩:=h.key T hT hz i cs0 j es x h0 hp0 hne hc
   exact ⟨b,c,k,cs1,a1,hω hfl b _ a2,a3⟩
section
variable {w:World} {O:Nat→Prop} {E:Env} {w0:World} {m:Mem} {P:Program}
open Classical in
theorem Zlg (hk:Ok w0 O E w m) {ν:Nat} {f:FuncId} {qs:List PV} {vs:Array Value} {ρ:List Nat} {m0 m1:Mem} {r:PV} {flat:Bool} {S:Nat→Prop} (hc:CallM P f qs m0 r m1) (hν:∀ i,i<m1.length-m0.length→¬ E.used (ν+i)) (hle:m0.length≤m1.length)
 (hl:vs.size=qs.length) (hargs:∀ β:Nat→Option Blk,(∀ l B,β l=some B→E.β (sig ρ ν l)=some B)→∀ (i:Nat) (p:PV),qs[i]?=some p→∃ x,vs[i]?=some x∧Rep w (E1 S β m0.length E.ω) p x)
 (hn:ρ.Nodup) (hin:inRows (sig ρ ν) m m0.length ρ m0) (hS1:∀ b,E.S b→S b) (hS2:flat=false→S=E.S) (hfl:flat=true→m0=[]) (hSsz:∀ b,S b→b<w.heap.size)
 (hm1:∀ mb,some mb∈m1→∀ cs∈mb.es,∀ p∈cs,goodC flat p) (hr:goodV flat r):
 Calls P f vs w fun e w'=>∃ v E2,e=.returned v∧Ok w0 O E2 w' (putNew (sig ρ ν) ν (m1.drop ρ.length) (putIn (sig ρ ν) ρ m1 m))∧Ext w w' E E2∧Rep w' E2 (renV (sig ρ ν) r) v∧∀ l,E2.used l→E.used l∨(ν≤l∧l<ν+(m1.length-m0.length)):=by
 obtain ⟨hρl,hρ⟩:=inRows_get hin
 have sig_lo:∀ {i l},ρ[i]?=some l→sig ρ ν i=l:=fun {i l} h=>by
  have hi:i<ρ.length:=(List.getElem?_eq_some_iff.1 h).1
  unfold sig List.getD
  rw [if_pos hi,h]; rfl
 have sig_lo':∀ {i},i<ρ.length→∃ l,ρ[i]?=some l∧sig ρ ν i=l:=fun {i} hi=>⟨ρ[i],List.getElem?_eq_getElem hi,sig_lo (List.getElem?_eq_getElem hi)⟩
 have sig_hi:∀ {i},¬ i<ρ.length→sig ρ ν i=ν+(i-ρ.length):=fun {i} hi=>by simp [sig,hi]
 have hused:∀ {i},i<m1.length→E.used (sig ρ ν i)→i<ρ.length:=fun {i} hi hu=>by
  by_cases h:i<ρ.length
  ·exact h
  ·rw [sig_hi h] at hu
   exact absurd hu (hν _ (by omega))
 have hρu:∀ l∈ρ,E.used l:=fun l hl=>by
  obtain ⟨i,hi⟩:=List.getElem?_of_mem hl
  obtain ⟨mb0,_,h2,_⟩:=hρ i l hi
  exact Zcs hk h2
 have sig_inj:∀ {i j},i<m1.length→j<m1.length→sig ρ ν i=sig ρ ν j→i=j:=by
  intro i j hi hj e
  by_cases h1:i<ρ.length <;> by_cases h2:j<ρ.length
  ·obtain ⟨a,ha,ea⟩:=sig_lo' h1
   obtain ⟨b,hb,eb⟩:=sig_lo' h2
   have hab:a=b:=by rw [← ea,← eb,e]
   subst hab
   rw [List.getElem?_eq_getElem h1,Option.some.injEq] at ha
   rw [List.getElem?_eq_getElem h2,Option.some.injEq] at hb
   rcases Nat.lt_trichotomy i j with h3 | h3 | h3
   ·exact absurd (ha.trans hb.symm) (List.pairwise_iff_getElem.1 hn i j h1 h2 h3)
   ·exact h3
   ·exact absurd (hb.trans ha.symm) (List.pairwise_iff_getElem.1 hn j i h2 h1 h3)
  ·obtain ⟨a,ha,ea⟩:=sig_lo' h1
   have:=hused hj (by rw [← e,ea]; exact hρu a (List.mem_of_getElem? ha))
   omega
  ·obtain ⟨b,hb,eb⟩:=sig_lo' h2
   have:=hused hi (by rw [e,eb]; exact hρu b (List.mem_of_getElem? hb))
   omega
  ·rw [sig_hi h1,sig_hi h2] at e; omega
 -- the callee's rows
 let β:Nat→Option Blk:=fun i=>if i<ρ.length then E.β (sig ρ ν i) else none
 have hβe:∀ {i B},β i=some B→i<ρ.length∧E.β (sig ρ ν i)=some B:=fun {i B} h=>by
  simp only [β] at h
  split at h
  ·exact ⟨by assumption,h⟩
  ·cases h
 have hnS:∀ l B,E.β l=some B→B.z=false→l∈ρ→¬ S B.b:=fun l B hB hz hlρ=>by
  cases flat with
  | false=>rw [hS2 rfl]; exact (hk.own l B hB hz).2.2
  | true=>
   have:=hfl rfl
   rw [this] at hρl
   rw [List.length_eq_zero_iff.1 hρl] at hlρ
   cases hlρ
 have hokc:Ok w (own0 β) (E1 S β m0.length E.ω) w m0:=by
  refine ⟨UpO.refl _ _,hSsz,fun l B hB hz=>?_,fun l l' B B' hB hB' hz hz' e=>?_,fun l hl=>hl,fun l B hB=>?_,fun l mb0 hm0=>?_,fun l B hB=>?_,hk.tabc fun b hb=>?_,fun b q hq=>⟨hS1 b (hk.ow b q hq).1,(hk.ow b q hq).2⟩⟩
  ·obtain ⟨h1,h2⟩:=hβe hB
   obtain ⟨a,ha,ea⟩:=sig_lo' h1
   rw [ea] at h2
   exact ⟨.inl ⟨l,B,hB,hz,rfl⟩,(hk.own a B h2 hz).2.1,hnS a B h2 hz (List.mem_of_getElem? ha)⟩
  ·obtain ⟨h1,h2⟩:=hβe hB
   obtain ⟨h3,h4⟩:=hβe hB'
   exact sig_inj (by omega) (by omega) (hk.inj _ _ B B' h2 h4 hz hz' e)
  ·have:=(hβe hB).1
   show l<m0.length
   omega
  ·have hl0:l<ρ.length:=by rw [hρl]; exact (List.getElem?_eq_some_iff.1 hm0).1
   obtain ⟨a,ha,ea⟩:=sig_lo' hl0
   obtain ⟨mb0',h1,h2,h3⟩:=hρ l a ha
   rw [hm0] at h1
   simp only [Option.some.injEq] at h1
   subst h1
   obtain ⟨B,hB,hb⟩:=hk.mem a _ h2
   refine ⟨B,by simp only [E1,β]; rw [if_pos hl0,ea]; exact hB,hb.k,by rw [hb.n]; simp [renMB,renEs],hb.T,hb.pos,hb.nc,hb.cm,fun i cs hi=>?_,fun hz=>?_,fun hz=>?_,fun T hT hz i cs j es x hi hj hne hcx=>?_⟩
   ·have:=hb.es i (cs.map (renC (sig ρ ν))) (by simp [renMB,renEs,hi])
    simpa using this
   ·have:=hb.nil hz
    simpa [renMB,renEs] using this
   ·obtain ⟨cells,m1',m2',m3'⟩:=hb.mem hz
    refine ⟨cells,m1',m2',fun i cs j p hi hj=>?_⟩
    obtain ⟨x,x1,x2,x3⟩:=m3' i (cs.map (renC (sig ρ ν))) j (renC (sig ρ ν) p) (by simp [renMB,renEs,hi]) (by simp [hj])
    have hgl:=h3 cs (List.mem_of_getElem? hi) p (List.mem_of_getElem? hj)
    refine ⟨x,x1,x2,Zk4 (E:=E) (fun l B hB=>(hβe hB).2) hS1 x3 hgl.1 hgl.2 (fun cs e=>?_) (fun cs e=>?_)⟩
    ·subst e; obtain ⟨_,rfl,_⟩:=Rep.ag_inv x3; simp [Value.oneCell'] at x2
    ·subst e; obtain ⟨_,rfl,_⟩:=Rep.tu_inv x3; simp [Value.oneCell'] at x2
   ·exact hb.key T hT hz i (cs.map (renC (sig ρ ν))) j es x (by simp [renMB,renEs,hi]) (by simp [hj,renC,ren1]) hne hcx
  ·obtain ⟨h1,h2⟩:=hβe hB
   obtain ⟨a,ha,ea⟩:=sig_lo' h1
   obtain ⟨mb0,h3,_⟩:=hρ l a ha
   exact ⟨mb0,h3⟩
  ·obtain ⟨l,B,hB,hz,rfl⟩:=hb
   obtain ⟨h1,h2⟩:=hβe hB
   exact (hk.own _ B h2 hz).1
 refine (hc S β w vs E.ω hokc hl (hargs β fun l B hB=>(hβe hB).2)).mono ?_
 rintro e w' ⟨v,E',rfl,hok,hSS,hSn,⟨hβ',hωn⟩,hrep⟩
 have hm1l:∀ {i},E'.used i→i<m1.length:=fun {i} h=>hok.used i h
 -- the caller's rows behind the call
 let m2:=putNew (sig ρ ν) ν (m1.drop ρ.length) (putIn (sig ρ ν) ρ m1 m)
 let S2:Nat→Prop:=fun b=>if flat then E.S b else E'.S b
 let β2:Nat→Option Blk:=fun l=>if liveB m2 l=true then (if h:∃ i,i<m1.length∧sig ρ ν i=l then E'.β (Classical.choose h) else E.β l) else none
 let E2:Env:={ S:=S2,β:=β2,used:=fun l=>E.used l∨∃ i,E'.used i∧sig ρ ν i=l,ω:=fun b q=>E.ω b q∨(flat=false∧E'.ω b q) }
 have hρlt:∀ l∈ρ,l<m.length:=fun l hl=>hk.used l (hρu l hl)
 have hget:∀ {l mb},m2[l]?=some (some mb)→(∃ i mb1,i<m1.length∧sig ρ ν i=l∧m1[i]?=some (some mb1)∧mb=renMB (sig ρ ν) mb1)∨(l ∉ ρ∧(¬ ∃ i,i<m1.length∧sig ρ ν i=l)∧m[l]?=some (some mb)):=by
  intro l mb h
  rcases ZgC _ _ _ _ _ h with ⟨i,mb1,rfl,h1,h2⟩ | h'
  ·rw [List.getElem?_drop] at h1
   refine .inl ⟨ρ.length+i,mb1,(List.getElem?_eq_some_iff.1 h1).1,?_,h1,h2⟩
   rw [sig_hi (by omega)]; omega
  ·by_cases hl:l∈ρ
   ·obtain ⟨i,hi⟩:=List.getElem?_of_mem hl
    have hil:i<ρ.length:=(List.getElem?_eq_some_iff.1 hi).1
    rw [Zj0 ρ m1 m hn hρlt (by omega) i l hi] at h'
    rw [List.getElem?_eq_getElem (show i<m1.length by omega)] at h'
    simp only [Option.map_some,Option.some.injEq] at h'
    obtain ⟨mb1,h1,h2⟩:=Option.map_eq_some_iff.1 h'
    exact .inl ⟨i,mb1,by omega,sig_lo hi,by rw [List.getElem?_eq_getElem (show i<m1.length by omega),h1],h2.symm⟩
   ·rw [ZiT ρ m1 m l hl] at h'
    refine .inr ⟨hl,?_,h'⟩
    rintro ⟨i,hi,rfl⟩
    have:=hused hi (Zcs hk h')
    obtain ⟨a,ha,ea⟩:=sig_lo' this
    rw [ea] at hl
    exact hl (List.mem_of_getElem? ha)
 have hch:∀ {i} (hi:i<m1.length) (h:∃ j,j<m1.length∧sig ρ ν j=sig ρ ν i),Classical.choose h=i:=fun {i} hi h=>sig_inj (Classical.choose_spec h).1 hi (Classical.choose_spec h).2
 have hβ2:∀ {l B},β2 l=some B→liveB m2 l=true∧((∃ i,i<m1.length∧sig ρ ν i=l∧E'.β i=some B)∨((¬ ∃ i,i<m1.length∧sig ρ ν i=l)∧E.β l=some B)):=by
  intro l B h
  simp only [β2] at h
  split at h
  ·rename_i hlv
   refine ⟨hlv,?_⟩
   split at h
   ·rename_i hex
    exact .inl ⟨Classical.choose hex,(Classical.choose_spec hex).1,(Classical.choose_spec hex).2,h⟩
   ·rename_i hex
    exact .inr ⟨hex,h⟩
  ·cases h
 have hsame:∀ b,b<w.heap.size→¬ own0 β b→w'.heap[b]?=w.heap[b]?:=fun b hb hn=>hok.up.block b hb hn
 have howns:∀ b,own0 β b→∃ l B,l∈ρ∧E.β l=some B∧B.z=false∧B.b=b:=by
  rintro b ⟨l,B,hB,hz,rfl⟩
  obtain ⟨h1,h2⟩:=hβe hB
  obtain ⟨a,ha,ea⟩:=sig_lo' h1
  exact ⟨a,B,List.mem_of_getElem? ha,by rw [← ea]; exact h2,hz,rfl⟩
 have hS2a:∀ b,S2 b→E'.S b:=fun b hb=>by
  simp only [S2] at hb
  split at hb
  ·exact hSS b (hS1 b hb)
  ·exact hb
 have hS2':∀ b,S2 b→E.S b∨w.heap.size≤b∨own0 β b:=fun b hb=>by
  simp only [S2] at hb
  split at hb
  ·exact .inl hb
  ·rename_i hf
   rcases hSn b hb with h | h | h
   ·rw [hS2 (by simpa using hf)] at h; exact .inl h
   ·exact .inr (.inl h)
   ·exact .inr (.inr h)
 have hown1:∀ b,own0 β b→own0 E.β b:=fun b ho=>by
  obtain ⟨l,B,_,hB,hz,rfl⟩:=howns b ho
  exact ⟨l,B,hB,hz,rfl⟩
 have hSE:∀ b,E.S b→S2 b:=fun b hb=>by
  simp only [S2]
  split
  ·exact hb
  ·exact hSS b (hS1 b hb)
 have hx:Ext w w' E E2:=by
  refine ⟨hSE,fun b o hb=>Zbt (hsame b (hk.sz b hb) fun ho=>?_),fun l B hl hB=>?_,fun l hl=>.inl hl,fun b hb=>(hS2' b hb).imp id fun h=>h.imp id (hown1 b),fun b ho=>?_,hok.up.size,fun b q hq=>⟨.inl hq,hsame b (hk.sz b (hk.ow b q hq).1) fun ho=>(by obtain ⟨l,B,_,hB,hz,rfl⟩:=howns b ho; exact (hk.own l B hB hz).2.2 (hk.ow _ q hq).1)⟩,fun b q hq=>(by rcases hq with h | ⟨_,h⟩; exact .inl h; exact (hωn b q h).imp id fun h=>h.imp id (hown1 b))⟩
  ·obtain ⟨l,B,_,hB,hz,rfl⟩:=howns b ho
   exact (hk.own l B hB hz).2.2 hb
  ·rcases (hβ2 hB).2 with ⟨i,hi,rfl,hB'⟩ | ⟨_,hB'⟩
   ·have hlt:=hused hi hl
    obtain ⟨h1,h2⟩:=hβe (hβ' i B (by omega) hB')
    exact h2
   ·exact hB'
  ·obtain ⟨l,B,hB,hz,rfl⟩:=ho
   rcases (hβ2 hB).2 with ⟨i,hi,_,hB'⟩ | ⟨_,hB'⟩
   ·rcases (hok.own i B hB' hz).1 with h | h
    ·exact .inl (hown1 _ h)
    ·exact .inr h
   ·exact .inl ⟨l,B,hB',hz,rfl⟩
 have hren:∀ l B,E'.used l→E2.β (sig ρ ν l)=some B→E'.β l=some B:=by
  intro l B hl hB
  rcases (hβ2 hB).2 with ⟨i,hi,he,hB'⟩ | ⟨hno,_⟩
  ·rw [← sig_inj hi (hm1l hl) he]; exact hB'
  ·exact absurd ⟨l,hm1l hl,rfl⟩ hno
 have hrenS:∀ p x,(flat=true→isF p=true)→RepC w' E'.S p x→RepC w' E2.S p x:=by
  intro p x hp h
  cases hf:flat with
  | true=>exact h.flat (hp hf)
  | false=>exact h.all fun b hb=>by simp only [E2,S2,hf]; exact hb
 have hmix:∀ b q q',E.ω b q→E'.ω b q'→q'=q:=fun b q q' h h'=>by
  rcases hωn b q' h' with h1 | h1 | h1
  ·exact (hk.ow b q h).2 q' h1
  ·have:=hk.sz b (hk.ow b q h).1; omega
  ·obtain ⟨l,B,_,hB,hz,rfl⟩:=howns b h1
   exact absurd (hk.ow _ q h).1 (hk.own l B hB hz).2.2
 have how:∀ b q,E2.ω b q→E2.S b∧∀ q',E2.ω b q'→q'=q:=fun b q hq=>by
  rcases hq with h | ⟨hf,h⟩
  ·refine ⟨hSE b (hk.ow b q h).1,fun q' hq'=>?_⟩
   rcases hq' with h' | ⟨_,h'⟩
   ·exact (hk.ow b q h).2 q' h'
   ·exact hmix b q q' h h'
  ·refine ⟨by simp only [E2,S2,hf]; exact (hok.ow b q h).1,fun q' hq'=>?_⟩
   rcases hq' with h' | ⟨_,h'⟩
   ·exact (hmix b q' q h' h).symm
   ·exact (hok.ow b q h).2 q' h'
 refine ⟨v,E2,rfl,⟨?_,fun b hb=>hok.sz b (hS2a b hb),fun l B hB hz=>?_,fun l l' B B' hB hB' hz hz' e=>?_,fun l hl=>?_,fun l B hB=>?_,fun l mb hm2=>?_,fun l B hB=>liveB_iff.1 (hβ2 hB).1,hk.tab,how⟩,hx,
  Zpa (flat:=flat) hren (fun l hl=>.inr ⟨l,hl,rfl⟩) hrenS hrep hr,fun l hl=>?_⟩
 ·refine hk.up.trans hok.up fun b hb ho=>?_
  obtain ⟨l,B,_,hB,hz,rfl⟩:=howns b ho
  rcases (hk.own l B hB hz).1 with h | h
  ·exact h
  ·omega
 ·rcases (hβ2 hB).2 with ⟨i,hi,rfl,hB'⟩ | ⟨hno,hB'⟩
  ·obtain ⟨h1,h2,h3⟩:=hok.own i B hB' hz
   refine ⟨?_,h2,fun hS=>h3 (hS2a _ hS)⟩
   rcases h1 with h1 | h1
   ·obtain ⟨l,B1,_,hB1,hz1,e1⟩:=howns _ h1
    rw [← e1]; exact (hk.own l B1 hB1 hz1).1
   ·exact .inr (by have:=hk.up.size; omega)
  ·obtain ⟨h1,h2,h3⟩:=hk.own l B hB' hz
   refine ⟨h1,by have:=hok.up.size; omega,fun hS=>?_⟩
   rcases hS2' _ hS with h | h | h
   ·exact h3 h
   ·omega
   ·obtain ⟨l3,B3,hl3,hB3,hz3,e3⟩:=howns _ h
    have:=hk.inj l3 l B3 B hB3 hB' hz3 hz e3
    subst this
    obtain ⟨j,hj⟩:=List.getElem?_of_mem hl3
    have hjl:j<ρ.length:=(List.getElem?_eq_some_iff.1 hj).1
    exact hno ⟨j,by omega,sig_lo hj⟩
 ·have cross:∀ {i l2 B1 B2},i<m1.length→E'.β i=some B1→(¬ ∃ j,j<m1.length∧sig ρ ν j=l2)→E.β l2=some B2→B1.z=false→B2.z=false→B1.b=B2.b→False:=by
   intro i l2 B1 B2 hi hB1 hno hB2 hz1 hz2 e
   rcases (hok.own i B1 hB1 hz1).1 with h | h
   ·obtain ⟨l3,B3,hl3,hB3,hz3,e3⟩:=howns _ h
    have:=hk.inj l3 l2 B3 B2 hB3 hB2 hz3 hz2 (e3.trans e)
    subst this
    obtain ⟨j,hj⟩:=List.getElem?_of_mem hl3
    have hjl:j<ρ.length:=(List.getElem?_eq_some_iff.1 hj).1
    exact hno ⟨j,by omega,sig_lo hj⟩
   ·have:=(hk.own l2 B2 hB2 hz2).2.1
    omega
  rcases (hβ2 hB).2 with ⟨i,hi,rfl,h1⟩ | ⟨hno,h1⟩ <;> rcases (hβ2 hB').2 with ⟨i',hi',rfl,h2⟩ | ⟨hno',h2⟩
  ·rw [hok.inj i i' B B' h1 h2 hz hz' e]
  ·exact (cross hi h1 hno' h2 hz hz' e).elim
  ·exact (cross hi' h2 hno h1 hz' hz e.symm).elim
  ·exact hk.inj l l' B B' h1 h2 hz hz' e
 ·obtain ⟨g1,g2⟩:=ZgD (σ:=sig ρ ν) ν (m1.drop ρ.length) (putIn (sig ρ ν) ρ m1 m)
  rw [Zj1] at g1
  show l<(putNew (sig ρ ν) ν (m1.drop ρ.length) (putIn (sig ρ ν) ρ m1 m)).length
  rcases hl with hl | ⟨i,hi,rfl⟩
  ·have:=hk.used l hl; omega
  ·have hi':=hm1l hi
   by_cases h:i<ρ.length
   ·obtain ⟨a,ha,ea⟩:=sig_lo' h
    rw [ea]
    have:=hρlt a (List.mem_of_getElem? ha)
    omega
   ·rw [sig_hi h]
    exact g2 _ (by simp; omega)
 ·rcases (hβ2 hB).2 with ⟨i,hi,rfl,h1⟩ | ⟨hno,h1⟩
  ·exact .inr ⟨i,hok.bu i B h1,rfl⟩
  ·exact .inl (hk.bu l B h1)
 ·have hlv:liveB m2 l=true:=liveB_iff.2 ⟨mb,hm2⟩
  rcases hget hm2 with ⟨i,mb1,hi,rfl,h1,rfl⟩ | ⟨hl,hno,h1⟩
  ·obtain ⟨B,hB,hb⟩:=hok.mem i mb1 h1
   have hex:∃ j,j<m1.length∧sig ρ ν j=sig ρ ν i:=⟨i,hi,rfl⟩
   refine ⟨B,?_,hb.renamed (flat:=flat) (hm1 mb1 (List.mem_of_getElem? h1)) hren (fun l hl=>.inr ⟨l,hl,rfl⟩) hrenS fun hf b q hq=>.inr ⟨hf,hq⟩⟩
   simp only [E2,β2,hlv,if_true,hex,dif_pos]
   rw [hch hi]
   exact hB
  ·obtain ⟨B,hB,hb⟩:=hk.mem l mb h1
   refine ⟨B,by simp only [E2,β2,hlv,if_true]; rw [dif_neg hno]; exact hB,hb.ext hx fun hz=>hsame _ (hk.own l B hB hz).2.1 fun ho=>?_⟩
   obtain ⟨l3,B3,hl3,hB3,hz3,e3⟩:=howns _ ho
   exact hl (hk.inj l3 l B3 B hB3 hB hz3 hz e3 ▸ hl3)
 ·rcases hl with hl | ⟨i,hi,rfl⟩
  ·exact .inl hl
  ·have hi':=hm1l hi
   by_cases h:i<ρ.length
   ·obtain ⟨a,ha,ea⟩:=sig_lo' h
    rw [ea]
    exact .inl (hρu a (List.mem_of_getElem? ha))
   ·rw [sig_hi h]
    exact .inr ⟨by omega,by omega⟩
def isCA:PV→Bool
 | .ag cs=>cs.all isC
 | .tu _=>false
 | p=>isC p
def pCall (P:Program) (io:Bool) (wd ν:Nat) (f:FuncId) (ps:List PV) (m:Mem) (K:PV→Mem→Prop):Prop:=
 (∃ r m1,snapA m ps (fun qs=>CallM P f qs [] r m1)∧m1.length≤wd∧(∀ mb,some mb∈m1→∀ cs∈mb.es,∀ p∈cs,goodC true p)∧goodV true r∧K (renV (sig [] ν) r) (putNew (sig [] ν) ν m1 m))∨
 ∃ (ρ:List Nat) (m0:Mem) (qs:List PV) (r:PV) (m1:Mem),(io=true∨ρ=[])∧CallM P f qs m0 r m1∧m0.length≤m1.length∧m1.length-m0.length≤wd∧ps=qs.map (renA (sig ρ ν))∧(∀ q∈qs,goodA false q∧lowA m0.length q=true)∧ρ.Nodup∧inRows (sig ρ ν) m m0.length ρ m0∧
  (∀ mb,some mb∈m1→∀ cs∈mb.es,∀ p∈cs,goodC false p)∧goodV false r∧K (renV (sig ρ ν) r) (putNew (sig ρ ν) ν (m1.drop ρ.length) (putIn (sig ρ ν) ρ m1 m))
theorem ZkK (hk:Ok w0 O E w m) {io:Bool} {wd ν:Nat} (hν:∀ i,i<wd→¬ E.used (ν+i)) {f:FuncId} {ps:List PV} {vs:Array Value} (hl:vs.size=ps.length) (hr:∀ (j:Nat) (p:PV) (x:Value),ps[j]?=some p→vs[j]?=some x→Rep w E p x) {K:PV→Mem→Prop} (h:pCall P io wd ν f ps m K):
 ∃ r m',K r m'∧Calls P f vs w fun e w'=>∃ v E',e=.returned v∧Ok w0 O E' w' m'∧Ext w w' E E'∧Rep w' E' r v∧∀ l,E'.used l→E.used l∨(ν≤l∧l<ν+wd):=by
 rcases h with ⟨r,m1,hs,hwd,hm1,hgr,hK⟩ | ⟨ρ,m0,qs,r,m1,_,hc,hle,hwd,hps,hqs,hn,hin,hm1,hgr,hK⟩
 ·refine ⟨_,_,hK,?_⟩
  obtain ⟨ds,hc,hdl,hd⟩:=Zj6 hk ps vs.toList _ (by simpa using hl) (fun j p x hp hx=>hr j p x hp (by simpa using hx)) hs
  have hsz:∀ b,Sall E b→b<w.heap.size:=by
   rintro b (h | ⟨l,B,hB,hz,rfl⟩)
   ·exact hk.sz b h
   ·exact (hk.own l B hB hz).2.1
  refine (Zlg (ρ:=[]) (flat:=true) hk hc (fun i hi=>hν i (by simp at hi; omega)) (Nat.zero_le _) (by rw [hl,hdl]) (fun β _ i p hp=>?_) List.nodup_nil trivial (fun b hb=>.inl hb) (fun h=>by cases h) (fun _=>rfl) hsz hm1 hgr).mono ?_
  ·have hi:i<vs.size:=by rw [hl,← hdl]; exact (List.getElem?_eq_some_iff.1 hp).1
   exact ⟨vs[i],Array.getElem?_eq_getElem hi,hd i p _ hp (by simp [Array.getElem?_eq_getElem hi]) _ _ _⟩
  ·rintro e w' ⟨v,E2,he,h1,h2,h3,h4⟩
   exact ⟨v,E2,he,h1,h2,h3,fun l hl=>(h4 l hl).imp id fun h=>⟨h.1,by have:=h.2; simp at this; omega⟩⟩
 ·refine ⟨_,_,hK,?_⟩
  have hql:vs.size=qs.length:=by rw [hl,hps,List.length_map]
  refine (Zlg (ρ:=ρ) (flat:=false) (S:=E.S) hk hc (fun i hi=>hν i (by omega)) hle hql (fun β hβ i p hp=>?_) hn hin (fun b hb=>hb) (fun _=>rfl) (fun h=>by cases h) hk.sz hm1 hgr).mono ?_
  ·have hi:i<vs.size:=by rw [hql]; exact (List.getElem?_eq_some_iff.1 hp).1
   have hg:=hqs p (List.mem_of_getElem? hp)
   exact ⟨vs[i],Array.getElem?_eq_getElem hi,ZqV hβ (fun b hb=>hb) (hr i (renA (sig ρ ν) p) _ (by rw [hps]; simp [hp]) (Array.getElem?_eq_getElem hi)) hg.1 hg.2⟩
  ·rintro e w' ⟨v,E2,he,h1,h2,h3,h4⟩
   exact ⟨v,E2,he,h1,h2,h3,fun l hl=>(h4 l hl).imp id fun h=>⟨h.1,by have:=h.2; omega⟩⟩
end
end Go.Proofs.YtmcdjilbkmhfoaaGreat
namespace Go.Proofs.YtmcdjilbkmhfoaaGreat
set_option maxRecDepth 10000
open Go.RowKit
set_option linter.unusedVariables false
set_option linter.unusedSimpArgs false
def isFn (P : Program) (f : FuncId) : Prop := ∃ fn, P.funcs[f]? = some fn ∧ fn.body.isSome = true ∧ (fn.name == "runtime.NumGoroutine") = false
def popA (P:Program) (io:Bool) (wd ν:Nat) (o:Op) (t:List PV) (m:Mem) (K:PV→Mem→Prop):Prop:=
 match o with
 | .alloc T=>pBox ν m T (pz P T) K
 | .box T x=>pBox ν m T (pc (evP t x)) K
 | .buildSlice T n ps=>pBuildSlice P ν m T n (ps.toList.map fun q=>(q.1,evP t q.2)) K
 | .makeSlice T l c=>pMake P ν m T (evP t l) (evP t c) K
 | .store T a x=>pStore P m T (evP t a) (evP t x) K
 | .call c=>match c.callee with
  | .builtin .append=>match c.args.toList,c.argTypes.toList with
   | [s,x],[T,T']=>T=T'∧pAppend P ν m T (evP t s) (evP t x) K
   | _,_=>False
  | .value (.func f)=>isFn P f∧pCall P io wd ν f (c.args.toList.map (evP t)) m K
  | .value (.tmp i)=>match t.getD i .un with
   | .fn f cs=>(∀ c∈cs,isR c=true)∧isFn P f∧pCall P io wd ν f (c.args.toList.map (evP t)++cs) m K
   | _=>False
  | _=>popR P o t m fun p=>K p m
 | _=>popR P o t m fun p=>K p m
def gate (c:Bool) (y n:Prop):Prop:=(c=true→y)∧(c=false→n)
def putP (t:List PV) (d:Option Tmp) (p:PV):List PV:=
 match d with
 | some d=>t.set d p
 | none=>t
def pops (P:Program) (ops:Array Oper) (K:List PV→Mem→Prop):List Oper→List PV→Mem→Prop
 | [],t,m=>K t m
 | o::rest,t,m=>match o.guard with
  | none=>popA P true 16 m.length o.op t m fun p m'=>pops P ops K rest (putP t o.dst p) m'
  | some (j,b)=>match (ops[j]?).bind (·.dst) with
   | none=>pops P ops K rest (putP t o.dst .ud) m
   | some d=>match t.getD d .un,b with
    | .v (.bool c),true=>gate c (popA P true 16 m.length o.op (t.set d (.v (.bool true))) m fun p m'=>pops P ops K rest (putP (t.set d (.v (.bool true))) o.dst p) m') (pops P ops K rest (putP (t.set d (.v (.bool false))) o.dst .ud) m)
    | .v (.bool c),false=>gate c (pops P ops K rest (putP (t.set d (.v (.bool true))) o.dst .ud) m) (popA P true 16 m.length o.op (t.set d (.v (.bool false))) m fun p m'=>pops P ops K rest (putP (t.set d (.v (.bool false))) o.dst p) m')
    | .ud,_=>pops P ops K rest (putP t o.dst .ud) m
    | _,_=>False
section
variable {w:World} {O:Nat→Prop} {E:Env} {w0:World} {m:Mem} {P:Program}
def ZmJ (P:Program) (w0:World) (O:Nat→Prop) (E:Env) (w:World) (wd ν:Nat) (a:Act) (o:Oper) (p:PV) (m':Mem):Prop:=
 ∀ (K:Act→World→Prop) (Q:Exit→Act→World→Prop),(∀ x w' E',Ok w0 O E' w' m'→Ext w w' E E'→Rep w' E' p x→(∀ l,E'.used l→E.used l∨(ν≤l∧l<ν+wd))→K (a.put o.dst x) w')→o.wp P a w K Q
theorem Zht {wd ν:Nat} (hwd:0<wd) {a:Act} {o:Oper} {s:Sem Value} {p:PV} {m':Mem} (he:execOp a.eval o=do pure (Next.value (← s))) (h:Zhf P w0 O E w ν s p m'):ZmJ P w0 O E w wd ν a o p m':=by
 obtain ⟨x,w',E',hrun,h1,h2,h3,h4⟩:=h
 intro K Q hK
 unfold Oper.wp
 rw [he,Zph hrun]
 exact hK x w' E' h1 h2 h3 fun l hl=>(h4 l hl).imp id fun h=>by omega
theorem Zql {wd ν:Nat} (hk:Ok w0 O E w m) {a:Act} {o:Oper} {p:PV} (h:ZmK P E w a o p):ZmJ P w0 O E w wd ν a o p m:=by
 obtain ⟨x,hrun,h3⟩:=h
 intro K Q hK
 unfold Oper.wp
 rw [hrun]
 exact hK x w E hk (Ext.refl w E) h3 fun l hl=>.inl hl
theorem Zip {io : Bool} {wd ν : Nat} (hk : Ok w0 O E w m) (hν : ∀ i, i < wd → ¬ E.used (ν + i)) {t : List PV} {a : Act} {o : Oper} {f : FuncId} {ps : List PV} {vs : Array Value} (hf : isFn P f) (hrun : ∀ fn, P.funcs[f]? = some fn → fn.body.isSome = true → (fn.name == "runtime.NumGoroutine") = false → (execOp a.eval o).run P w = .ok (.enter f vs) w)
 (hl:vs.size=ps.length) (hr:∀ (j:Nat) (p:PV) (x:Value),ps[j]?=some p→vs[j]?=some x→Rep w E p x) {K:PV→Mem→Prop} (h:pCall P io wd ν f ps m K):∃ p m',K p m'∧ZmJ P w0 O E w wd ν a o p m':=by
 obtain ⟨fn,hf,hbody,hname⟩:=hf
 obtain ⟨p,m',hK,hcall⟩:=ZkK (P:=P) hk hν hl hr h
 refine ⟨p,m',hK,fun K Q hKK=>?_⟩
 unfold Oper.wp
 rw [hrun fn hf hbody hname,Oper.upon_enter]
 refine hcall.mono ?_
 rintro e w' ⟨v,E',rfl,h1,h2,h3,h4⟩
 exact hKK v w' E' h1 h2 h3 h4
theorem Zlc {t:List PV} {a:Act} (ev:∀ o:Operand,Rep w E (evP t o) (a.eval o)) (args:Array Operand) (j:Nat) (p:PV) (x:Value) (hp:(args.toList.map (evP t))[j]?=some p) (hx:(args.map a.eval)[j]?=some x):Rep w E p x:=by
 rw [List.getElem?_map] at hp
 rw [Array.getElem?_map] at hx
 cases hq:args[j]? with
 | none=>simp [hq] at hx
 | some q=>
  rw [Array.getElem?_toList,hq] at hp
  rw [hq] at hx
  simp only [Option.map_some,Option.some.injEq] at hp hx
  rw [← hp,← hx]
  exact ev q
theorem popA_sound (hk:Ok w0 O E w m) {io:Bool} {wd ν:Nat} (hwd:0<wd) (hν:∀ i,i<wd→¬ E.used (ν+i)) {t:List PV} {a:Act} (ht:RepT w E t a.tmps) {o:Oper} {K:PV→Mem→Prop} (h:popA P io wd ν o.op t m K):∃ p m',K p m'∧ZmJ P w0 O E w wd ν a o p m':=by
 have ev:=evP_rep ht
 have hν0:¬ E.used ν:=hν 0 hwd
 have red:popR P o.op t m (fun p=>K p m)→∃ p m',K p m'∧ZmJ P w0 O E w wd ν a o p m':=fun h=>by
  obtain ⟨p,hK,hg⟩:=Zmw hk ht h
  exact ⟨p,m,hK,Zql hk hg⟩
 unfold popA at h
 split at h
 ·rename_i T ho
  obtain ⟨p,m',hK,hg⟩:=ZjR (P:=P) hk hν0 h
  exact ⟨p,m',hK,Zht hwd (by simp only [execOp,ho]) hg⟩
 ·rename_i T x ho
  obtain ⟨p,m',hK,hg⟩:=Zmp (P:=P) hk hν0 (ev x) h
  exact ⟨p,m',hK,Zht hwd (by simp only [execOp,ho]) hg⟩
 ·rename_i T n ps ho
  obtain ⟨p,m',hK,hg⟩:=ZgB (P:=P) hk hν0 (vs:=ps.map fun (i,x)=>(i,a.eval x)) (by simp) (fun j i p hj=>by
   rw [List.getElem?_map] at hj
   cases hq:ps.toList[j]? with
   | none=>rw [hq] at hj; cases hj
   | some q=>
    rw [hq] at hj
    simp only [Option.map_some,Option.some.injEq,Prod.mk.injEq] at hj
    obtain ⟨rfl,rfl⟩:=hj
    rw [Array.getElem?_toList] at hq
    exact ⟨a.eval q.2,by simp [hq],ev q.2⟩) h
  exact ⟨p,m',hK,Zht hwd (by simp only [execOp,ho]) hg⟩
 ·rename_i T l c ho
  obtain ⟨p,m',hK,hg⟩:=ZkN (P:=P) hk hν0 (ev l) (ev c) h
  exact ⟨p,m',hK,Zht hwd (by simp only [execOp,ho]) hg⟩
 ·rename_i T x y ho
  obtain ⟨m',hK,w',hrun,h1,h2⟩:=ZjZ (P:=P) hk (ev x) (ev y) h
  refine ⟨_,m',hK,fun K Q hKK=>?_⟩
  unfold Oper.wp
  simp only [execOp,ho,Sem.run_bind,hrun,Result.andThen_ok,Sem.run_pure]
  exact hKK undef w' E h1 h2 (.c .ud) fun l hl=>.inl hl
 ·rename_i c ho
  split at h
  ·rename_i hc
   split at h
   ·rename_i s x T T' hx hT
    obtain ⟨rfl,h⟩:=h
    obtain ⟨callee,args,argTypes⟩:=c
    have ha:=ZfU hx
    have hTs:=ZfU hT
    simp only at hc ha hTs
    subst hc ha hTs
    obtain ⟨p,m',hK,hg⟩:=ZiS (P:=P) (ty:=o.type) hk hν0 (ev s) (ev x) h
    refine ⟨p,m',hK,Zht hwd ?_ hg⟩
    simp [execOp,ho,resolve,invoke,builtin]
   ·exact h.elim
  ·rename_i f hc
   obtain ⟨hf,h⟩:=h
   obtain ⟨callee,args,argTypes⟩:=c
   simp only at hc h
   subst hc
   refine Zip hk hν (t:=t) (vs:=args.map a.eval) hf (fun fn hf hbody hname=>?_) (by simp) (Zlc ev args) h
   have hname' : (fn.name = "runtime.NumGoroutine") = False := by simpa using hname
   have hbn':(fn.body=none)=False:=by
    simp only [eq_iff_iff,iff_false]
    intro hb; rw [hb] at hbody; cases hbody
   simp [execOp,ho,resolve,invoke,Act.eval,callFunc,Deferred.ofValue,hf,hname',hbn']
  ·rename_i i hc
   split at h
   ·rename_i f cs hti
    obtain ⟨_,hf,h⟩:=h
    obtain ⟨callee,args,argTypes⟩:=c
    simp only at hc h
    subst hc
    have hv:=ev (.tmp i)
    simp only [evP,hti] at hv
    obtain ⟨us,hus,hul,hur⟩:=hv.fn_inv
    refine Zip hk hν (t:=t) (vs:=args.map a.eval++us) hf (fun fn hf hbody hname=>?_) (by simp [hul]) (fun j p x hp hx=>?_) h
    ·have hname' : (fn.name = "runtime.NumGoroutine") = False := by simpa using hname
     have hbn':(fn.body=none)=False:=by
      simp only [eq_iff_iff,iff_false]
      intro hb; rw [hb] at hbody; cases hbody
     simp [execOp,ho,resolve,invoke,hus,callFunc,Deferred.ofValue,hf,hname',hbn']
    ·have hal:(args.toList.map (evP t)).length=args.size:=by simp
     rcases Nat.lt_or_ge j args.size with hj | hj
     ·rw [List.getElem?_append_left (by rw [hal]; exact hj)] at hp
      rw [Array.getElem?_append_left (by simpa using hj)] at hx
      exact Zlc ev args j p x hp hx
     ·rw [List.getElem?_append_right (by rw [hal]; exact hj)] at hp
      rw [Array.getElem?_append_right (by simpa using hj)] at hx
      refine hur _ p x (by rw [hal] at hp; exact hp) (by simpa using hx)
   ·exact h.elim
  ·exact red h
 ·exact red h
theorem RepT.ext {w':World} {E':Env} {t:List PV} {tm:Array Value} (h:RepT w E t tm) (hx:Ext w w' E E'):RepT w' E' t tm:=⟨h.1,fun i p hp=>(h.2 i p hp).ext hx⟩
theorem RepT.put {t:List PV} {a:Act} (h:RepT w E t a.tmps) {p:PV} {x:Value} (hp:Rep w E p x) (d:Option Tmp):RepT w E (putP t d p) (a.put d x).tmps:=by
 cases d with
 | none=>exact h
 | some d=>
  refine ⟨by simp [Act.put,putP,h.1],fun i q hq=>?_⟩
  simp only [putP] at hq
  simp only [Act.put]
  by_cases e:d=i
  ·subst e
   have hd:d<t.length:=by have:=(List.getElem?_eq_some_iff.1 hq).1; simpa using this
   rw [List.getElem?_set_self hd] at hq
   cases hq
   have:(a.tmps.setIfInBounds d x).getD d undef=x:=by simp [Array.getD,h.1,hd]
   rw [this]; exact hp
  ·rw [List.getElem?_set_ne e] at hq
   have:(a.tmps.setIfInBounds d x).getD i undef=a.tmps.getD i undef:=by
    rw [Array.getD_eq_getD_getElem?,Array.getD_eq_getD_getElem?,Array.getElem?_setIfInBounds_ne e]
   rw [this]; exact h.2 i q hq
theorem RepT.bool {t:List PV} {tm:Array Value} (h:RepT w E t tm) {d:Nat} {c:Bool} (hc:t.getD d .un=.v (.bool c)):RepT w E (t.set d (.v (.bool c))) tm:=by
 refine ⟨by simp [h.1],fun i q hq=>?_⟩
 by_cases e:d=i
 ·subst e
  have hd:d<t.length:=by have:=(List.getElem?_eq_some_iff.1 hq).1; simpa using this
  rw [List.getElem?_set_self hd] at hq
  cases hq
  refine h.2 d _ ?_
  rw [← hc]
  simp [List.getD,List.getElem?_eq_getElem hd]
 ·rw [List.getElem?_set_ne e] at hq
  exact h.2 i q hq
theorem guard_none {o:Oper} (h:o.guard=none) (y:Nat→Option Bool):Region.wanted o y=true:=by simp [Region.wanted,h]
theorem guard_no {ops:Array Oper} {o:Oper} {j:Nat} {b:Bool} (h:o.guard=some (j,b)) (hd:(ops[j]?).bind (·.dst)=none) (tm:Array Value):Region.wanted o (yielded ops tm)=false:=by
 simp [Region.wanted,h,yielded,hd]
theorem guard_bool {ops:Array Oper} {o:Oper} {j d:Nat} {b c:Bool} (h:o.guard=some (j,b)) (hd:(ops[j]?).bind (·.dst)=some d) {t:List PV} {tm:Array Value} (ht:RepT w E t tm) (hc:t.getD d .un=.v (.bool c)):Region.wanted o (yielded ops tm)=(c == b):=by
 have hlt:d<t.length:=by
  rcases Nat.lt_or_ge d t.length with h | h
  ·exact h
  ·simp [List.getD,List.getElem?_eq_none h] at hc
 have hrep:=ht.2 d _ (List.getElem?_eq_getElem hlt)
 have hda:d<tm.size:=by rw [ht.1]; exact hlt
 have e1:tm.getD d undef=tm[d]:=by simp [Array.getD,hda]
 have e2:t.getD d .un=t[d]:=by simp [List.getD,List.getElem?_eq_getElem hlt]
 rw [e1,← e2,hc] at hrep
 have:=hrep.v_inv.1
 simp only [Region.wanted,h,yielded,hd,Option.bind_some,Array.getElem?_eq_getElem hda,this]
 cases c <;> cases b <;> rfl
theorem guard_ud {ops:Array Oper} {o:Oper} {j d:Nat} {b:Bool} (h:o.guard=some (j,b)) (hd:(ops[j]?).bind (·.dst)=some d) {t:List PV} {tm:Array Value} (ht:RepT w E t tm) (hc:t.getD d .un=.ud):Region.wanted o (yielded ops tm)=false:=by
 have hlt:d<t.length:=by
  rcases Nat.lt_or_ge d t.length with h | h
  ·exact h
  ·simp [List.getD,List.getElem?_eq_none h] at hc
 have hrep:=ht.2 d _ (List.getElem?_eq_getElem hlt)
 have hda:d<tm.size:=by rw [ht.1]; exact hlt
 have e1:tm.getD d undef=tm[d]:=by simp [Array.getD,hda]
 have e2:t.getD d .un=t[d]:=by simp [List.getD,List.getElem?_eq_getElem hlt]
 rw [e1,← e2,hc] at hrep
 have hu:tm[d]=undef:=by
  generalize tm[d]=z at hrep
  cases hrep with
  | c h=>cases h; rfl
 simp only [Region.wanted,h,yielded,hd,Option.bind_some,Array.getElem?_eq_getElem hda,hu]
 rfl
theorem pops_sound {ops:Array Oper} {K:List PV→Mem→Prop} {Q:Exit→Act→World→Prop}:∀ (l:List Oper) (t:List PV) (m:Mem) (E:Env) (w:World) (a:Act),Ok w0 O E w m→a.defers=[]→RepT w E t a.tmps→pops P ops K l t m→
 (∀ t m E' w' (a':Act),K t m→Ok w0 O E' w' m→Ext w w' E E'→a'.defers=[]→RepT w' E' t a'.tmps→Q .normal a' w')→wpList P ops Q l a w
 | [],t,m,E,w,a,hk,hd,ht,h,hQ=>hQ t m E w a h hk (Ext.refl w E) hd ht
 | o::l,t,m,E,w,a,hk,hd,ht,h,hQ=>by
  have hdd:∀ x,(a.put o.dst x).defers=[]:=fun x=>by cases o.dst <;> exact hd
  have run:∀ t',RepT w E t' a.tmps→Region.wanted o (yielded ops a.tmps)=true→popA P true 16 m.length o.op t' m (fun p m'=>pops P ops K l (putP t' o.dst p) m')→wpList P ops Q (o::l) a w:=by
   intro t' ht' hw h
   obtain ⟨p,m',hK,hg⟩:=popA_sound hk (by omega) (fun i _ hu=>by have:=hk.used _ hu; omega) ht' h
   unfold wpList
   rw [if_pos hw]
   exact .inl (hg _ _ fun x w' E' h1 h2 h3 _=>pops_sound l _ m' E' w' _ h1 (hdd x) ((ht'.ext h2).put h3 o.dst) hK fun t m E2 w2 a2 k1 k2 k3=>hQ t m E2 w2 a2 k1 k2 (h2.trans k3))
  have pass:∀ t',RepT w E t' a.tmps→Region.wanted o (yielded ops a.tmps)=false→pops P ops K l (putP t' o.dst .ud) m→wpList P ops Q (o::l) a w:=by
   intro t' ht' hw h
   unfold wpList
   rw [hw,if_neg (by simp)]
   exact pops_sound l _ m E w _ hk (hdd _) (ht'.put (.c .ud) o.dst) h hQ
  simp only [pops] at h
  split at h
  ·rename_i hg; exact run t ht (guard_none hg _) h
  ·rename_i j b hg
   split at h
   ·rename_i hdn; exact pass t ht (guard_no hg hdn _) h
   ·rename_i d hdn
    split at h
    ·rename_i c hc
     have hb:=guard_bool hg hdn ht hc
     cases c with
     | true=>exact run _ (ht.bool hc) hb (h.1 rfl)
     | false=>exact pass _ (ht.bool hc) hb (h.2 rfl)
    ·rename_i c hc
     have hb:=guard_bool hg hdn ht hc
     cases c with
     | true=>exact pass _ (ht.bool hc) hb (h.1 rfl)
     | false=>exact run _ (ht.bool hc) hb (h.2 rfl)
    ·rename_i hc; exact pass t ht (guard_ud hg hdn ht hc) h
    ·exact h.elim
end
def ZeP:PV→List Nat
 | .ms l=>[l]
 | .ss l _ _=>[l]
 | .be l _ _=>[l]
 | _=>[]
def ZeA:PV→List Nat
 | .fn _ cs=>cs.flatMap ZeP
 | p=>ZeP p
def ZeZ:PV→List Nat
 | .ag cs=>cs.flatMap ZeA
 | p=>ZeA p
def Zde:PV→List Nat
 | .tu vs=>vs.flatMap ZeZ
 | p=>ZeZ p
def opM:Op→Bool
 | .move _ | .assign _ | .extract ..=>false
 | _=>true
def opR (o:Op) (t:List PV):List Nat:=match opM o with
 | true=>o.operands.toList.flatMap fun x=>Zde (evP t x)
 | false=>[]
def opW (o:Op) (t:List PV) (wd ν:Nat):List Nat:=
 match o with
 | .alloc _=>[ν]
 | .box _ _=>[ν]
 | .buildSlice _ _ _=>[ν]
 | .makeSlice _ _ _=>[ν]
 | .store _ a _=>Zde (evP t a)
 | .call c=>match c.callee with
  | .builtin .append=>ν::(c.args.toList.take 1).flatMap fun x=>Zde (evP t x)
  | .builtin _=>[]
  | _=>List.range' ν wd
 | _=>[]
abbrev Upd:=List (Nat × Option MB)
def app1 (m:Mem) (q:Nat × Option MB):Mem:=(m++List.replicate (q.1+1-m.length) none).set q.1 q.2
def app (u:Upd) (m:Mem):Mem:=u.foldl app1 m
theorem app_set {m:Mem} {l:Nat} (h:l<m.length) (x:Option MB):app [(l,x)] m=m.set l x:=by
 simp only [app,List.foldl_cons,List.foldl_nil,app1]
 rw [show l+1-m.length=0 by omega]; simp
def look (m:Mem) (l:Nat):Option MB:=(m[l]?).join
theorem look_iff {m:Mem} {l:Nat} {mb:MB}:look m l=some mb↔m[l]?=some (some mb):=by
 unfold look
 cases h:m[l]? with
 | none=>simp
 | some x=>cases x <;> simp
theorem look_live {m:Mem} {l:Nat} (K:MB→Prop):live m l K=match look m l with
 | some mb=>K mb
 | none=>False:=by
 unfold look live
 cases h:m[l]? with
 | none=>rfl
 | some x=>cases x <;> rfl
structure Same (o:Op) (t:List PV) (m:Mem) (t2:List PV) (m2:Mem):Prop where
 te:∀ x∈o.operands.toList,evP t2 x=evP t x
 me:∀ l∈opR o t,look m2 l=look m l
section
variable {P:Program} {m m2:Mem} {t t2:List PV} {o:Op}
theorem Same.refs (h:Same o t m t2 m2) (hm:opM o=true) {x:Operand} (hx:x∈o.operands.toList) {l:Nat} (hl:l∈Zde (evP t x)):look m2 l=look m l:=h.me l (by unfold opR; rw [hm]; exact List.mem_flatMap.2 ⟨x,hx,hl⟩)
theorem Zb7 {l:Nat} (h:look m2 l=look m l) (K:MB→Prop):live m2 l K=live m l K:=by rw [look_live,look_live,h]
theorem Zn7 {p:PV} (h:∀ l∈Zde p,look m2 l=look m l):rdp m2 p=rdp m p:=by
 cases p with
 | be l i o=>
  have e:=h l (by simp [Zde,ZeZ,ZeA,ZeP])
  have key:∀ m:Mem,rdp m (.be l i o)=(look m l).bind fun mb=>(mb.es[i]?).map (·.drop o):=by
   intro m
   unfold look rdp
   cases h:m[l]? with
   | none=>simp [h]
   | some x=>cases x <;> simp [h]
  rw [key,key,e]
 | _=>rfl
theorem Zmu {p:PV} (h:∀ l∈Zde p,look m2 l=look m l):pNil m2 p=pNil m p:=by
 funext K
 cases p with
 | be l i o=>simp only [pNil,Zb7 (h l (by simp [Zde,ZeZ,ZeA,ZeP]))]
 | _=>rfl
theorem ZjT {S D:TypeId} {p:PV} (h:∀ l∈Zde p,look m2 l=look m l):pConvM P m2 S D p=pConvM P m S D p:=by
 funext K
 cases p with
 | ms l=>simp only [pConvM,Zb7 (h l (by simp [Zde,ZeZ,ZeA,ZeP]))]
 | _=>rfl
theorem ZjX {T:TypeId} {p:PV} {lo hi:Option PV} (h:∀ l∈Zde p,look m2 l=look m l):pSlice P m2 T p lo hi=pSlice P m T p lo hi:=by
 funext K
 cases p with
 | ms l=>
  have e:=Zb7 (m:=m) (m2:=m2) (h l (by simp [Zde,ZeZ,ZeA,ZeP]))
  cases hu:P.underlying T with
  | none=>simp only [pSlice,hu]
  | some d=>cases d <;> simp only [pSlice,hu,e]
 | ss l a b=>
  have e:=Zb7 (m:=m) (m2:=m2) (h l (by simp [Zde,ZeZ,ZeA,ZeP]))
  cases hu:P.underlying T with
  | none=>simp only [pSlice,hu]
  | some d=>cases d <;> simp only [pSlice,hu,e]
 | v x=>
  unfold pSlice
  cases hu:P.underlying T with
  | none=>rfl
  | some d=>cases d <;> first | rfl | (cases x <;> first | rfl | (rename_i A n c; cases A <;> first | rfl | (cases n <;> first | rfl | (cases c <;> rfl))))
 | _=>
  unfold pSlice
  cases hu:P.underlying T with
  | none=>rfl
  | some d=>cases d <;> rfl
theorem ZgS {T:TypeId} {p:PV} {f:Nat} (h:∀ l∈Zde p,look m2 l=look m l):pFieldAddr P m2 T p f=pFieldAddr P m T p f:=by
 funext K
 cases p with
 | be l i o=>
  have e:=Zb7 (m:=m) (m2:=m2) (h l (by simp [Zde,ZeZ,ZeA,ZeP]))
  simp only [pFieldAddr,e]
 | _=>rfl
theorem ZgU {T:TypeId} {p q:PV} (h:∀ l∈Zde p,look m2 l=look m l):pIndexAddr P m2 T p q=pIndexAddr P m T p q:=by
 funext K
 cases p with
 | ms l=>
  have e:=Zb7 (m:=m) (m2:=m2) (h l (by simp [Zde,ZeZ,ZeA,ZeP]))
  simp only [pIndexAddr,e]
 | ss l a b=>
  have e:=Zb7 (m:=m) (m2:=m2) (h l (by simp [Zde,ZeZ,ZeA,ZeP]))
  simp only [pIndexAddr,e]
 | _=>rfl
theorem Zmr {T:TypeId} {p:PV} (h:∀ l∈Zde p,look m2 l=look m l):pLen P m2 T p=pLen P m T p:=by
 funext K
 cases p with
 | ms l=>
  have e:=Zb7 (m:=m) (m2:=m2) (h l (by simp [Zde,ZeZ,ZeA,ZeP]))
  cases hu:P.underlying T with
  | none=>simp only [pLen,hu]
  | some d=>cases d <;> simp only [pLen,hu,e]
 | ss l a b=>
  have e:=Zb7 (m:=m) (m2:=m2) (h l (by simp [Zde,ZeZ,ZeA,ZeP]))
  cases hu:P.underlying T with
  | none=>simp only [pLen,hu]
  | some d=>cases d <;> simp only [pLen,hu,e]
 | v x=>
  unfold pLen
  cases hu:P.underlying T with
  | none=>rfl
  | some d=>cases d <;> first | rfl | (cases x <;> first | rfl | (rename_i A n c; cases A <;> first | rfl | (cases n <;> first | rfl | (cases c <;> rfl))))
 | _=>
  unfold pLen
  cases hu:P.underlying T with
  | none=>rfl
  | some d=>cases d <;> rfl
theorem ZkU {p:PV} (h:∀ l∈Zde p,look m2 l=look m l):srcOf m2 p=srcOf m p:=by
 cases p with
 | ms l=>
  have e:=h l (by simp [Zde,ZeZ,ZeA,ZeP])
  have key:∀ m:Mem,srcOf m (.ms l)=(look m l).map (·.es):=by
   intro m
   unfold look srcOf
   cases h:m[l]? with
   | none=>simp [h]
   | some x=>cases x <;> simp [h]
  rw [key,key,e]
 | ss l a b=>
  have e:=h l (by simp [Zde,ZeZ,ZeA,ZeP])
  have key:∀ m:Mem,srcOf m (.ss l a b)=(look m l).map fun mb=>(mb.es.drop a).take (b-a):=by
   intro m
   unfold look srcOf
   cases h:m[l]? with
   | none=>simp [h]
   | some x=>cases x <;> simp [h]
  rw [key,key,e]
 | v x=>cases x <;> first | rfl | (rename_i A n c; cases A <;> first | rfl | (cases n <;> rfl))
 | _=>rfl
theorem Zb1 {p:PV} (h:∀ l∈ZeA p,look m2 l=look m l):Zgl m2 p=Zgl m p:=by
 funext K
 cases p with
 | ms l=>simp only [Zgl]; rw [Zb7 (h l (by simp [ZeA,ZeP]))]
 | ss l a b=>simp only [Zgl]; rw [Zb7 (h l (by simp [ZeA,ZeP]))]
 | _=>rfl
theorem ZhX:∀ {cs:List PV},(∀ l∈cs.flatMap ZeA,look m2 l=look m l)→ZgW m2 cs=ZgW m cs
 | [],_=>by funext K; rfl
 | c::cs,h=>by
  funext K
  simp only [ZgW]
  rw [Zb1 fun l hl=>h l (by simp [hl]),ZhX fun l hl=>h l (by
   rw [List.flatMap_cons]; exact List.mem_append_right _ hl)]
theorem ZkS {p:PV} (h:∀ l∈Zde p,look m2 l=look m l):ZgX m2 p=ZgX m p:=by
 funext K
 cases p with
 | ag cs=>simp only [ZgX]; rw [ZhX fun l hl=>h l hl]
 | tu vs=>rfl
 | v x=>exact congrFun (Zb1 (p:=.v x) fun l hl=>h l hl) K
 | ud=>exact congrFun (Zb1 (p:=.ud) fun l hl=>h l hl) K
 | un=>exact congrFun (Zb1 (p:=.un) fun l hl=>h l hl) K
 | sl es=>exact congrFun (Zb1 (p:=.sl es) fun l hl=>h l hl) K
 | rp cs=>exact congrFun (Zb1 (p:=.rp cs) fun l hl=>h l hl) K
 | ms l=>exact congrFun (Zb1 (p:=.ms l) fun l hl=>h l hl) K
 | ss l a b=>exact congrFun (Zb1 (p:=.ss l a b) fun l hl=>h l hl) K
 | be l i o=>exact congrFun (Zb1 (p:=.be l i o) fun l hl=>h l hl) K
 | fn f cs=>exact congrFun (Zb1 (p:=.fn f cs) fun l hl=>h l hl) K
theorem ZhW:∀ {cs:List PV},(∀ l∈cs.flatMap Zde,look m2 l=look m l)→snapA m2 cs=snapA m cs
 | [],_=>by funext K; rfl
 | c::cs,h=>by
  funext K
  simp only [snapA]
  rw [ZkS fun l hl=>h l (by simp [hl]),ZhW fun l hl=>h l (by
   rw [List.flatMap_cons]; exact List.mem_append_right _ hl)]
theorem ZhG {xs:List Operand} (h:∀ x∈xs,evP t2 x=evP t x):xs.map (evP t2)=xs.map (evP t):=List.map_congr_left h
theorem Zmv (h:Same o t m t2 m2):popR P o t2 m2=popR P o t m:=by
 have hr:=fun (hm:opM o=true) {x:Operand} (hx:x∈o.operands.toList)=>(fun l (hl:l∈Zde (evP t x))=>h.refs hm hx hl)
 have ht:=fun {x:Operand} (hx:x∈o.operands.toList)=>h.te x hx
 funext K
 cases o with
 | move x=>simp only [popR]; rw [ht (by simp [Op.operands])]
 | assign x=>simp only [popR]; rw [ht (by simp [Op.operands])]
 | pick c a b=>simp only [popR]; rw [ht (x:=c) (by simp [Op.operands]),ht (x:=a) (by simp [Op.operands]),ht (x:=b) (by simp [Op.operands])]
 | load T x=>simp only [popR]; rw [ht (x:=x) (by simp [Op.operands]),Zn7 (hr rfl (x:=x) (by simp [Op.operands]))]
 | nilCheck x=>simp only [popR]; rw [ht (x:=x) (by simp [Op.operands]),Zmu (hr rfl (x:=x) (by simp [Op.operands]))]
 | binOp op T x y Ty=>simp only [popR]; rw [ht (x:=x) (by simp [Op.operands]),ht (x:=y) (by simp [Op.operands])]
 | unOp op T x=>simp only [popR]; rw [ht (x:=x) (by simp [Op.operands])]
 | convert S D x=>simp only [popR]; rw [ht (x:=x) (by simp [Op.operands]),ZjT (hr rfl (x:=x) (by simp [Op.operands]))]
 | makeFunc fn first cs=>
  simp only [popR]
  rw [ZhG fun x hx=>ht (x:=x) (by simp only [Op.operands,Array.toList_append,List.mem_append]; exact .inr hx)]
 | slice T x lo hi mx=>
  cases mx with
  | some _=>rfl
  | none=>
   simp only [popR]
   rw [ht (x:=x) (by simp [Op.operands]),ZjX (hr rfl (x:=x) (by simp [Op.operands]))]
   have e1:lo.map (evP t2)=lo.map (evP t):=by
    cases lo with
    | none=>rfl
    | some z=>simp only [Option.map_some]; rw [ht (x:=z) (by simp [Op.operands])]
   have e2:hi.map (evP t2)=hi.map (evP t):=by
    cases hi with
    | none=>rfl
    | some z=>simp only [Option.map_some]; rw [ht (x:=z) (by simp [Op.operands])]
   rw [e1,e2]
 | fieldAddr S x f=>simp only [popR]; rw [ht (x:=x) (by simp [Op.operands]),ZgS (hr rfl (x:=x) (by simp [Op.operands]))]
 | field T x f=>simp only [popR]; rw [ht (x:=x) (by simp [Op.operands])]
 | indexAddr T x i=>simp only [popR]; rw [ht (x:=x) (by simp [Op.operands]),ht (x:=i) (by simp [Op.operands]),ZgU (hr rfl (x:=x) (by simp [Op.operands]))]
 | index T x i=>simp only [popR]; rw [ht (x:=x) (by simp [Op.operands]),ht (x:=i) (by simp [Op.operands])]
 | extract x i=>simp only [popR]; rw [ht (x:=x) (by simp [Op.operands])]
 | build T ps=>
  simp only [popR]
  have:(ps.toList.map fun q=>(q.1,evP t2 q.2))=ps.toList.map fun q=>(q.1,evP t q.2):=List.map_congr_left fun q hq=>by
   rw [ht (x:=q.2) (by simp only [Op.operands]; exact List.mem_map_of_mem hq)]
  rw [this]
 | call c=>
  have ha:∀ x∈c.args.toList,x∈(Op.call c).operands.toList:=fun x hx=>by
   simp only [Op.operands,Call.operands,Array.toList_append,List.mem_append]; exact .inr hx
  simp only [popR]
  have e:=ZhG (xs:=c.args.toList) fun x hx=>ht (ha x hx)
  split
  ·split
   ·rename_i x T hx hT
    have hx':x∈c.args.toList:=by rw [hx]; simp
    rw [ht (ha x hx'),Zmr (hr rfl (ha x hx'))]
   ·rfl
  ·rw [e]
  ·rw [e]
  ·rfl
 | _=>rfl
theorem Zo8 {K:PV→Prop} (h:popR P o t m K):∃ p,K p∧popR P o t m fun p'=>p'=p:=by
 have L:∀ {T:TypeId} {cs:Option (List PV)} {K:PV→Prop},pLoad P T cs K→∃ p,K p∧pLoad P T cs fun p'=>p'=p:=by
  intro T cs K h
  unfold pLoad at *
  split at h
  ·rename_i d cs' hd hcs
   split at h
   ·rename_i hag; exact ⟨_,h.2,by simp only [hag]; exact ⟨h.1,trivial⟩⟩
   ·rename_i hag
    split at h
    ·exact ⟨_,h,by simp only [hag]⟩
    ·exact h.elim
  ·exact h.elim
 have Lv:∀ {l:Nat} {A:MB→Prop},live m l A→∃ mb,m[l]?=some (some mb)∧A mb:=fun h=>Zb4 h
 have Lw:∀ {l:Nat} {A:MB→Prop} {mb:MB},m[l]?=some (some mb)→A mb→live m l A:=by
  intro l A mb h1 h2
  unfold live
  rw [h1]; exact h2
 unfold popR at *
 split at h <;> (try exact h.elim)
 ·exact ⟨_,h,rfl⟩
 ·exact ⟨_,h,rfl⟩
 ·split at h
  ·rename_i hc; exact ⟨_,h,by simp only [hc]⟩
  ·exact h.elim
 ·exact L h
 ·unfold pNil at *
  split at h
  ·rename_i hx
   obtain ⟨mb,h1,h2⟩:=Lv h
   exact ⟨_,h2,by simp only [hx]; exact Lw h1 trivial⟩
  ·rename_i hx; exact ⟨_,h,by simp only [hx]⟩
  ·exact h.elim
 ·unfold pBin at *
  split at h
  ·rename_i h1 h2
   unfold optK at *
   split at h
   ·rename_i hr; exact ⟨_,h,by simp only [h1,h2,hr]⟩
   ·exact h.elim
  ·rename_i h1 h2
   unfold eqK at *
   obtain ⟨hg,h⟩:=h
   split at h
   ·rename_i hr1 hr2
    split at h
    ·exact ⟨_,h,by simp only [h1,h2,hg,hr1,hr2]; exact ⟨trivial,trivial⟩⟩
    ·exact ⟨_,h,by simp only [h1,h2,hg,hr1,hr2]; exact ⟨trivial,trivial⟩⟩
    ·exact h.elim
   ·exact h.elim
  ·exact h.elim
 ·unfold pUn at *
  split at h
  ·rename_i h1; exact ⟨_,h,by simp only [h1]⟩
  ·rename_i h1; exact ⟨_,h,by simp only [h1]⟩
  ·exact h.elim
 ·unfold pConvM at *
  split at h
  ·rename_i h1
   split at h
   ·rename_i h2 h3
    obtain ⟨he,h⟩:=h
    obtain ⟨mb,g1,gk,h⟩:=Lv h
    split at h
    ·rename_i hb
     exact ⟨_,h,by simp only [h1,h2,h3]; exact ⟨he,Lw g1 ⟨gk,by simp only [hb]⟩⟩⟩
    ·exact h.elim
   ·exact h.elim
  ·rename_i h0
   have key:∀ {S D:TypeId} {x:PV} {K:PV→Prop},ZkL P S D x K→∃ p,K p∧ZkL P S D x fun p'=>p'=p:=by
    intro S D x K h
    unfold ZkL at *
    split at h
    ·rename_i h1 h2; exact ⟨_,h,by simp only [h1,h2]⟩
    ·rename_i h1 h2; exact ⟨_,h,by simp only [h1,h2]⟩
    ·exact h.elim
   obtain ⟨p,h1,h2⟩:=key h
   exact ⟨p,h1,h2⟩
 ·rename_i fn first cs
  split at h
  ·rename_i hf; exact ⟨_,h,by simp only [hf]⟩
  ·exact h.elim
 ·split at h
  ·unfold pSlice at *
   split at h
   ·rename_i h1 h2
    split at h
    ·rename_i h3 h4
     obtain ⟨a,b,c,d⟩:=h
     exact ⟨_,d,by simp only [h1,h2,h3,h4]; exact ⟨a,b,c,trivial⟩⟩
    ·exact h.elim
   ·rename_i h1 h2
    split at h
    ·rename_i h3 h4
     obtain ⟨a,b,c,d,e,f⟩:=h
     exact ⟨_,f,by simp only [h1,h2,h3,h4]; exact ⟨a,b,c,d,e,trivial⟩⟩
    ·exact h.elim
   ·rename_i h1 h2
    obtain ⟨mb,g1,h⟩:=Lv h
    split at h
    ·rename_i h3 h4
     obtain ⟨a,b,c,d,e,f⟩:=h
     exact ⟨_,f,by simp only [h1,h2]; exact Lw g1 (by simp only [h3,h4]; exact ⟨a,b,c,d,e,trivial⟩)⟩
    ·exact h.elim
   ·rename_i h1 h2
    obtain ⟨mb,g1,h⟩:=Lv h
    split at h
    ·rename_i h3 h4
     obtain ⟨a,b,c,d,e,f⟩:=h
     exact ⟨_,f,Lw g1 ⟨a,b,c,d,e,rfl⟩⟩
    ·exact h.elim
   ·rename_i h1 h2
    split at h
    ·rename_i h3 h4
     obtain ⟨a,b,c,d,e⟩:=h
     exact ⟨_,e,by simp only [h1,h2,h3,h4]; exact ⟨a,b,c,d,trivial⟩⟩
    ·exact h.elim
   ·exact h.elim
  ·exact h.elim
 ·unfold pFieldAddr at *
  split at h
  ·rename_i h1
   split at h
   ·rename_i h2
    obtain ⟨hp,h⟩:=h
    split at h
    ·rename_i h3
     obtain ⟨mb,g1,h⟩:=Lv h
     exact ⟨_,h,by simp only [h1,h2,h3]; exact ⟨hp,Lw g1 trivial⟩⟩
    ·rename_i h3; exact ⟨_,h,by simp only [h1,h2,h3]; exact ⟨hp,trivial⟩⟩
    ·exact h.elim
   ·exact h.elim
  ·exact h.elim
 ·unfold pField at *
  split at h
  ·rename_i h1
   split at h
   ·rename_i h2 h3
    obtain ⟨p,h4,h5⟩:=L h
    exact ⟨p,h4,h5⟩
   ·exact h.elim
  ·exact h.elim
 ·unfold pIndexAddr at *
  split at h
  ·rename_i h1 h2
   split at h
   ·rename_i h3
    obtain ⟨a,b,c,d,e⟩:=h
    exact ⟨_,e,by simp only [h1,h2,h3]; exact ⟨a,b,c,d,trivial⟩⟩
   ·rename_i h3
    obtain ⟨mb,g1,a,b,c,d⟩:=Lv h
    exact ⟨_,d,by simp only [h1,h2,h3]; exact Lw g1 ⟨a,b,c,trivial⟩⟩
   ·rename_i h3
    obtain ⟨mb,g1,a,b,c,d⟩:=Lv h
    exact ⟨_,d,by simp only [h1,h2,h3]; exact Lw g1 ⟨a,b,c,trivial⟩⟩
   ·exact h.elim
  ·exact h.elim
 ·unfold pIndex at *
  split at h
  ·rename_i h1 h2 h3
   obtain ⟨a,b,c⟩:=h
   exact ⟨_,c,by simp only [h1,h2,h3]; exact ⟨a,b,trivial⟩⟩
  ·exact h.elim
 ·unfold pExt at *
  split at h
  ·rename_i h1
   split at h
   ·rename_i h2; exact ⟨_,h,by simp only [h1,h2]⟩
   ·exact h.elim
  ·exact h.elim
 ·unfold pBuild at *
  split at h
  ·rename_i h1
   obtain ⟨hp,h⟩:=h
   split at h
   ·rename_i h2
    split at h
    ·rename_i h3; exact ⟨_,h,by simp only [h1,h2,h3]; exact ⟨hp,trivial⟩⟩
    ·exact h.elim
   ·exact h.elim
  ·exact h.elim
 ·split at h
  ·rename_i hc
   split at h
   ·rename_i h1 h2
    unfold pLen at *
    split at h
    ·rename_i h3 h4; exact ⟨_,h,by simp only [h3,h4]⟩
    ·rename_i h3 h4; exact ⟨_,h,by simp only [h3,h4]⟩
    ·rename_i h3 h4; exact ⟨_,h,by simp only [h3,h4]⟩
    ·rename_i h3 h4
     obtain ⟨mb,g1,h⟩:=Lv h
     exact ⟨_,h,by simp only [h3,h4]; exact Lw g1 rfl⟩
    ·rename_i h3 h4
     obtain ⟨mb,g1,h⟩:=Lv h
     exact ⟨_,h,Lw g1 rfl⟩
    ·exact h.elim
   ·exact h.elim
  ·rename_i hc
   unfold pMinMax at *
   split at h
   ·rename_i h1; exact ⟨_,h,by simp only [h1]; simp⟩
   ·exact h.elim
  ·rename_i hc
   unfold pMinMax at *
   split at h
   ·rename_i h1; exact ⟨_,h,by simp only [h1]; simp⟩
   ·exact h.elim
  ·exact h.elim
end
section
variable {P:Program} {m m2:Mem} {t t2:List PV} {o:Op}
def updNew (σ:Nat→Nat):Nat→Mem→Upd
 | _,[]=>[]
 | ν,x::m1=>(ν,x.map (renMB σ))::updNew σ (ν+1) m1
theorem putNew_app (σ:Nat→Nat):∀ (ν:Nat) (m1 m:Mem),putNew σ ν m1 m=app (updNew σ ν m1) m
 | ν,[],m=>by unfold putNew; rfl
 | ν,some mb::m1,m=>by unfold putNew; rw [putNew_app σ (ν+1) m1]; rfl
 | ν,none::m1,m=>by unfold putNew; rw [putNew_app σ (ν+1) m1]; rfl
theorem updNew_mem (σ:Nat→Nat):∀ (ν:Nat) (m1:Mem) (q:Nat × Option MB),q∈updNew σ ν m1→ν≤q.1∧q.1<ν+m1.length
 | ν,[],q,h=>by simp [updNew] at h
 | ν,x::m1,q,h=>by
  simp only [updNew,List.mem_cons] at h
  rcases h with rfl | h
  ·simp
  ·have:=updNew_mem σ (ν+1) m1 q h
   simp only [List.length_cons]; omega
theorem mem_range' {ν k n:Nat}:k∈List.range' ν n↔ν≤k∧k<ν+n:=List.mem_range'_1
theorem ZhQ {f:FuncId} {ps:List PV} {wd ν:Nat} {K:PV→Mem→Prop} (h:pCall P false wd ν f ps m K):
 ∃ p u,K p (app u m)∧(∀ q∈u,q.1∈List.range' ν wd)∧∀ m2,(∀ l∈ps.flatMap Zde,look m2 l=look m l)→pCall P false wd ν f ps m2 fun p' m'=>p'=p∧m'=app u m2:=by
 rcases h with ⟨r,m1,hs,h16,hm1,hgr,hK⟩ | ⟨ρ,m0,qs,r,m1,hio,hc,hle,h16,hps,hqs,hn,hin,hm1,hgr,hK⟩
 ·refine ⟨renV (sig [] ν) r,updNew (sig [] ν) ν m1,by rw [← putNew_app]; exact hK,fun q hq=>?_,fun m2 hm2=>.inl ⟨r,m1,by rw [ZhW hm2]; exact hs,h16,hm1,hgr,rfl,putNew_app _ _ _ _⟩⟩
  rw [mem_range']
  have:=updNew_mem _ _ _ q hq
  omega
 ·obtain rfl:ρ=[]:=by simpa using hio
  have h0:m0=[]:=by
   have:=(inRows_get hin).1
   exact List.length_eq_zero_iff.1 this.symm
  subst h0
  simp only [List.length_nil,List.drop_zero,putIn] at hK
  refine ⟨renV (sig [] ν) r,updNew (sig [] ν) ν m1,by rw [← putNew_app]; exact hK,fun q hq=>?_,fun m2 hm2=>.inr ⟨[],[],qs,r,m1,.inr rfl,hc,hle,h16,hps,hqs,hn,trivial,hm1,hgr,rfl,?_⟩⟩
  ·rw [mem_range']
   have:=updNew_mem _ _ _ q hq
   simp only [List.length_nil] at h16
   omega
  ·simp only [List.length_nil,List.drop_zero,putIn]; exact putNew_app _ _ _ _
theorem popA_local {wd ν:Nat} {K:PV→Mem→Prop} (h:popA P false wd ν o t m K):
 ∃ p u,K p (app u m)∧(∀ q∈u,q.1∈opW o t wd ν)∧∀ t2 m2,Same o t m t2 m2→popA P false wd ν o t2 m2 fun p' m'=>p'=p∧m'=app u m2:=by
 have red:∀ {K:PV→Prop},popR P o t m K→∃ p,K p∧∀ t2 m2,Same o t m t2 m2→popR P o t2 m2 fun p'=>p'=p:=by
  intro K h
  obtain ⟨p,h1,h2⟩:=Zo8 h
  exact ⟨p,h1,fun t2 m2 hs=>by rw [Zmv hs]; exact h2⟩
 have imp:∀ {t2 m2 p},popR P o t2 m2 (fun p'=>p'=p)→popR P o t2 m2 fun p'=>p'=p∧m2=app [] m2:=by
  intro t2 m2 p h
  have:(fun p'=>p'=p∧m2=app [] m2)=fun p'=>p'=p:=by funext p'; simp [app]
  rw [this]; exact h
 cases o with
 | alloc T=>
  simp only [popA] at *
  unfold pBox at *
  split at h
  ·rename_i c cs hz
   exact ⟨_,[(ν,some _)],h,by simp [opW],fun t2 m2 _=>by simp only [hz]; exact ⟨trivial,rfl⟩⟩
  ·exact h.elim
 | box T x=>
  simp only [popA] at *
  unfold pBox at *
  split at h
  ·rename_i c cs hz
   exact ⟨_,[(ν,some _)],h,by simp [opW],fun t2 m2 hs=>by rw [hs.te x (by simp [Op.operands])]; simp only [hz]; exact ⟨trivial,rfl⟩⟩
  ·exact h.elim
 | buildSlice T n ps=>
  simp only [popA] at *
  have e:∀ {t2 m2},Same (.buildSlice T n ps) t m t2 m2→(ps.toList.map fun q=>(q.1,evP t2 q.2))=ps.toList.map fun q=>(q.1,evP t q.2):=fun hs=>List.map_congr_left fun q hq=>by
   rw [hs.te q.2 (by simp only [Op.operands]; exact List.mem_map_of_mem hq)]
  unfold pBuildSlice at *
  split at h
  ·rename_i e1 hu
   split at h
   ·rename_i zc hz
    obtain ⟨h1,h2,h3,h⟩:=h
    split at h
    ·rename_i cs hf
     exact ⟨_,[(ν,some _)],h,by simp [opW],fun t2 m2 hs=>by rw [e hs]; simp only [hu,hz,hf]; exact ⟨h1,h2,h3,trivial,rfl⟩⟩
    ·exact h.elim
   ·exact h.elim
  ·exact h.elim
 | makeSlice T l c=>
  simp only [popA] at *
  unfold pMake at *
  split at h
  ·rename_i e n n' hu hl hc
   split at h
   ·rename_i zc hz
    obtain ⟨h1,h2,h3,h4,h5,h6,h⟩:=h
    exact ⟨_,[(ν,some _)],h,by simp [opW],fun t2 m2 hs=>by
     rw [hs.te l (by simp [Op.operands]),hs.te c (by simp [Op.operands])]
     simp only [hu,hl,hc,hz]; exact ⟨h1,h2,h3,h4,h5,h6,trivial,rfl⟩⟩
   ·exact h.elim
  ·exact h.elim
 | store T x y=>
  simp only [popA] at *
  unfold pStore at *
  split at h
  ·rename_i l i o qs hx hq
   obtain ⟨mb,hm,h⟩:=Zb4 h
   split at h
   ·rename_i cs hcs
    obtain ⟨h1,h2,h3,h⟩:=h
    have hl:l<m.length:=(List.getElem?_eq_some_iff.1 hm).1
    refine ⟨_,[(l,some _)],by rw [app_set hl]; exact h,by simp [opW,hx,Zde,ZeZ,ZeA,ZeP],fun t2 m2 hs=>?_⟩
    have hm2:m2[l]?=some (some mb):=look_iff.1 ((hs.refs rfl (x:=x) (by simp [Op.operands]) (by simp [hx,Zde,ZeZ,ZeA,ZeP])).trans (look_iff.2 hm))
    rw [hs.te x (by simp [Op.operands]),hs.te y (by simp [Op.operands])]
    simp only [hx,hq,live,hm2,hcs]
    exact ⟨h1,h2,h3,trivial,(app_set (List.getElem?_eq_some_iff.1 hm2).1 _).symm⟩
   ·exact h.elim
  ·exact h.elim
 | call c=>
  have ha:∀ x∈c.args.toList,x∈(Op.call c).operands.toList:=fun x hx=>by
   simp only [Op.operands,Call.operands,Array.toList_append,List.mem_append]; exact .inr hx
  have hmap:∀ {t2 m2},Same (.call c) t m t2 m2→c.args.toList.map (evP t2)=c.args.toList.map (evP t):=fun hs=>ZhG fun x hx=>hs.te x (ha x hx)
  have hrefs:∀ {t2 m2},Same (.call c) t m t2 m2→∀ l∈(c.args.toList.map (evP t)).flatMap Zde,look m2 l=look m l:=fun hs l hl=>by
   simp only [List.mem_flatMap,List.mem_map] at hl
   obtain ⟨p,⟨x,hx,rfl⟩,hl⟩:=hl
   exact hs.refs rfl (ha x hx) hl
  simp only [popA] at *
  split at h
  ·rename_i hc
   split at h
   ·rename_i s x T T' hx hT
    obtain ⟨hTT,h⟩:=h
    have hs':s∈c.args.toList:=by rw [hx]; simp
    have hx':x∈c.args.toList:=by rw [hx]; simp
    have hrw:∀ {t2 m2},Same (.call c) t m t2 m2→evP t2 s=evP t s∧evP t2 x=evP t x∧srcOf m2 (evP t x)=srcOf m (evP t x):=fun hs=>⟨hs.te s (ha s hs'),hs.te x (ha x hx'),ZkU fun l hl=>hs.refs rfl (ha x hx') hl⟩
    unfold pAppend at h
    split at h
    ·rename_i e hu
     split at h
     ·rename_i zc es hz hes
      obtain ⟨h1,h2,h3,h⟩:=h
      split at h
      ·rename_i l hsl
       obtain ⟨mb,hm,g1,g2,g3,g4,h⟩:=Zb4 h
       have hl:l<m.length:=(List.getElem?_eq_some_iff.1 hm).1
       refine ⟨_,[(l,none),(ν,some _)],by simp only [app,List.foldl_cons,List.foldl_nil]; rw [show app1 m (l,none)=m.set l none from app_set hl none]; exact h,?_,fun t2 m2 hs=>?_⟩
       ·intro q hq
        simp only [opW,hc,List.mem_cons,List.not_mem_nil,or_false] at hq ⊢
        rcases hq with rfl | rfl
        ·exact .inr (List.mem_flatMap.2 ⟨s,by rw [hx]; simp,by simp [hsl,Zde,ZeZ,ZeA,ZeP]⟩)
        ·exact .inl rfl
       ·obtain ⟨e1,e2,e3⟩:=hrw hs
        have hm2:m2[l]?=some (some mb):=look_iff.1 ((hs.refs rfl (ha s hs') (by simp [hsl,Zde,ZeZ,ZeA,ZeP])).trans (look_iff.2 hm))
        refine ⟨hTT,?_⟩
        unfold pAppend
        rw [e1,e2]
        simp only [hu,hz,e3,hes,hsl,live,hm2]
        refine ⟨h1,h2,h3,g1,g2,g3,g4,trivial,?_⟩
        simp only [app,List.foldl_cons,List.foldl_nil]; rw [show app1 m2 (l,none)=m2.set l none from app_set (List.getElem?_eq_some_iff.1 hm2).1 none]; rfl
      ·rename_i hsl
       obtain ⟨g3,g4,h⟩:=h
       refine ⟨_,[(ν,some _)],h,by simp [opW,hc],fun t2 m2 hs=>?_⟩
       obtain ⟨e1,e2,e3⟩:=hrw hs
       refine ⟨hTT,?_⟩
       unfold pAppend
       rw [e1,e2]
       simp only [hu,hz,e3,hes,hsl]
       exact ⟨h1,h2,h3,g3,g4,trivial,rfl⟩
      ·exact h.elim
     ·exact h.elim
    ·exact h.elim
   ·exact h.elim
  ·rename_i f hc
   obtain ⟨hf,h⟩:=h
   obtain ⟨p,u,h1,h2,h3⟩:=ZhQ h
   refine ⟨p,u,h1,by simp only [opW,hc]; exact h2,fun t2 m2 hs=>⟨hf,?_⟩⟩
   rw [hmap hs]
   exact h3 m2 (hrefs hs)
  ·rename_i i hc
   have hi:Operand.tmp i∈(Op.call c).operands.toList:=by simp [Op.operands,Call.operands,hc]
   split at h
   ·rename_i f cs hti
    obtain ⟨hR,hf,h⟩:=h
    obtain ⟨p,u,h1,h2,h3⟩:=ZhQ h
    refine ⟨p,u,h1,by simp only [opW,hc]; exact h2,fun t2 m2 hs=>?_⟩
    have e1:=hs.te _ hi
    simp only [evP,hti] at e1
    rw [e1,hmap hs]
    refine ⟨hR,hf,h3 m2 fun l hl=>?_⟩
    rw [List.flatMap_append,List.mem_append] at hl
    rcases hl with hl | hl
    ·exact hrefs hs l hl
    ·have hfn:evP t (.tmp i)=.fn f cs:=hti
     refine hs.refs rfl hi ?_
     rw [hfn]
     simp only [Zde,ZeZ,ZeA]
     obtain ⟨c1,hc1,hl1⟩:=List.mem_flatMap.1 hl
     refine List.mem_flatMap.2 ⟨c1,hc1,?_⟩
     have hR1:=hR c1 hc1
     cases c1 <;> first | exact hl1 | simp [isR] at hR1
   ·exact h.elim
  ·obtain ⟨p,h1,h2⟩:=red h
   exact ⟨p,[],h1,by simp,fun t2 m2 hs=>imp (h2 t2 m2 hs)⟩
 | _=>
  simp only [popA] at *
  obtain ⟨p,h1,h2⟩:=red h
  exact ⟨p,[],h1,by simp,fun t2 m2 hs=>imp (h2 t2 m2 hs)⟩
end
/-! Updates. -/
theorem Zg0 (m:Mem) (q:Nat × Option MB) (l:Nat):(app1 m q)[l]?=if l=q.1 then some q.2 else if l<m.length then m[l]? else if l<q.1+1 then some none else none:=by
 unfold app1
 by_cases h:l=q.1
 ·subst h
  rw [if_pos rfl,List.getElem?_set_self (by simp; omega)]
 ·rw [if_neg h,List.getElem?_set_ne (fun e=>h e.symm)]
  rcases Nat.lt_or_ge l m.length with h1 | h1
  ·rw [if_pos h1,List.getElem?_append_left h1]
  ·rw [if_neg (by omega),List.getElem?_append_right h1,List.getElem?_replicate]
   split
   ·rw [if_pos (by omega)]
   ·rw [if_neg (by omega)]
theorem ZoB (m:Mem) (q:Nat × Option MB):(app1 m q).length=max m.length (q.1+1):=by simp [app1]; omega
theorem ZmP (m:Mem) {q r:Nat × Option MB} (h:q.1≠r.1):app1 (app1 m q) r=app1 (app1 m r) q:=by
 apply List.ext_getElem?
 intro l
 simp only [Zg0,ZoB]
 by_cases h1:l=q.1 <;> by_cases h2:l=r.1
 ·exact absurd (h1.symm.trans h2) h
 ·subst h1; simp only [h2,if_true,if_false]; (repeat' split) <;> first | rfl | (exfalso; omega)
 ·subst h2; simp only [h1,if_true,if_false]; (repeat' split) <;> first | rfl | (exfalso; omega)
 ·simp only [h1,h2,if_false]
  (repeat' split) <;> first | rfl | (exfalso; omega)
theorem Zla {q:Nat × Option MB}:∀ (u:Upd) (m:Mem),(∀ r∈u,q.1≠r.1)→app u (app1 m q)=app1 (app u m) q
 | [],m,_=>rfl
 | r::u,m,h=>by
  show app u (app1 (app1 m q) r)=app1 (app u (app1 m r)) q
  rw [ZmP m (h r List.mem_cons_self),Zla u _ fun r' hr'=>h r' (List.mem_cons_of_mem _ hr')]
theorem Zlb:∀ (u v:Upd) (m:Mem),(∀ q∈u,∀ r∈v,q.1≠r.1)→app v (app u m)=app u (app v m)
 | [],v,m,_=>rfl
 | q::u,v,m,h=>by
  show app v (app u (app1 m q))=app u (app1 (app v m) q)
  rw [Zlb u v _ fun q' hq' r hr=>h q' (List.mem_cons_of_mem _ hq') r hr,Zla v m fun r hr=>h q List.mem_cons_self r hr]
theorem ZhE {m:Mem} {q:Nat × Option MB} {l:Nat} (h:q.1≠l):look (app1 m q) l=look m l:=by
 unfold look
 rw [Zg0,if_neg (fun e=>h e.symm)]
 by_cases h1:l<m.length
 ·rw [if_pos h1]
 ·rw [if_neg h1,List.getElem?_eq_none (by omega)]
  split <;> rfl
theorem ZhF {m m':Mem} {q:Nat × Option MB} {l:Nat} (h:look m l=look m' l):look (app1 m q) l=look (app1 m' q) l:=by
 by_cases e:q.1=l
 ·unfold look
  rw [Zg0,Zg0,if_pos e.symm,if_pos e.symm]
 ·rw [ZhE e,ZhE e,h]
theorem ZfB {l:Nat}:∀ (u:Upd) {m m':Mem},look m l=look m' l→look (app u m) l=look (app u m') l
 | [],_,_,h=>h
 | q::u,_,_,h=>ZfB u (ZhF h)
theorem ZiN {l:Nat}:∀ (u:Upd) (m:Mem),(∀ q∈u,q.1≠l)→look (app u m) l=look m l
 | [],_,_=>rfl
 | q::u,m,h=>(ZiN u _ fun r hr=>h r (List.mem_cons_of_mem _ hr)).trans (ZhE (h q List.mem_cons_self))
/-! The state behind the operations of L. -/
structure RA where
 d:Option Tmp
 p:PV
 u:Upd
def stT (L:Nat→Bool):Nat→List RA→List PV→List PV
 | _,[],t=>t
 | i,a::as_,t=>stT L (i+1) as_ (if L i=true then putP t a.d a.p else t)
def stM (L:Nat→Bool):Nat→List RA→Mem→Mem
 | _,[],m=>m
 | i,a::as_,m=>stM L (i+1) as_ (if L i=true then app a.u m else m)
theorem Zo9 (t:List PV) (d:Option Tmp) (p:PV):(putP t d p).length=t.length:=by cases d <;> simp [putP]
theorem ZnZ {t t':List PV} {d:Option Tmp} {p:PV} {s:Nat} (hl:t.length=t'.length) (h:t.getD s .un=t'.getD s .un):(putP t d p).getD s .un=(putP t' d p).getD s .un:=by
 cases d with
 | none=>exact h
 | some d=>
  simp only [putP,List.getD,List.getElem?_set,hl]
  split
  ·rfl
  ·exact h
theorem Zn0 {t:List PV} {d:Option Tmp} {p:PV} {s:Nat} (h:d≠some s):(putP t d p).getD s .un=t.getD s .un:=by
 cases d with
 | none=>rfl
 | some d=>
  have:d≠s:=fun e=>h (by rw [e])
  simp only [putP,List.getD,List.getElem?_set_ne this]
theorem ZnY {t:List PV} {d e:Option Tmp} {p q:PV} (h:d=none∨d≠e):putP (putP t d p) e q=putP (putP t e q) d p:=by
 cases d with
 | none=>rfl
 | some d=>
  cases e with
  | none=>rfl
  | some e=>
   have:d≠e:=fun h'=>by rcases h with h | h <;> simp_all
   simp only [putP]
   exact List.set_comm _ _ this
theorem stT_agree {L L':Nat→Bool} {s:Nat}:∀ (as_:List RA) (i:Nat) (t t':List PV),t.length=t'.length→t.getD s .un=t'.getD s .un→(∀ k a,as_[k]?=some a→L (i+k)≠L' (i+k)→a.d≠some s)→(stT L i as_ t).getD s .un=(stT L' i as_ t').getD s .un
 | [],_,_,_,_,h,_=>h
 | a::as_,i,t,t',hl,h,hd=>by
  simp only [stT]
  have h0:=hd 0 a rfl
  simp only [Nat.add_zero] at h0
  refine stT_agree as_ (i+1) _ _ ?_ ?_ fun k b hk hne=>hd (k+1) b (by simpa using hk) (by rwa [show i+(k+1)=i+1+k by omega])
  ·split <;> split <;> simp [Zo9,hl]
  ·cases h1:L i <;> cases h2:L' i <;> simp only [Bool.false_eq_true,if_false,if_true]
   ·exact h
   ·rw [Zn0 (h0 (by rw [h1,h2]; simp))]; exact h
   ·rw [Zn0 (h0 (by rw [h1,h2]; simp))]; exact h
   ·exact ZnZ hl h
theorem stM_agree {L L':Nat→Bool} {l:Nat}:∀ (as_:List RA) (i:Nat) (m m':Mem),look m l=look m' l→(∀ k a,as_[k]?=some a→L (i+k)≠L' (i+k)→∀ q∈a.u,q.1≠l)→look (stM L i as_ m) l=look (stM L' i as_ m') l
 | [],_,_,_,h,_=>h
 | a::as_,i,m,m',h,hd=>by
  simp only [stM]
  have h0:=hd 0 a rfl
  simp only [Nat.add_zero] at h0
  refine stM_agree as_ (i+1) _ _ ?_ fun k b hk hne=>hd (k+1) b (by simpa using hk) (by rwa [show i+(k+1)=i+1+k by omega])
  cases h1:L i <;> cases h2:L' i <;> simp only [Bool.false_eq_true,if_false,if_true]
  ·exact h
  ·rw [ZiN _ _ (h0 (by rw [h1,h2]; simp))]; exact h
  ·rw [ZiN _ _ (h0 (by rw [h1,h2]; simp))]; exact h
  ·exact ZfB _ h
theorem Zi2 {L:Nat→Bool} {d:Option Tmp} {p:PV}:∀ (as_:List RA) (i:Nat) (t:List PV),(∀ k a,as_[k]?=some a→L (i+k)=true→d=none∨d≠a.d)→stT L i as_ (putP t d p)=putP (stT L i as_ t) d p
 | [],_,_,_=>rfl
 | a::as_,i,t,h=>by
  simp only [stT]
  have h0:=h 0 a rfl
  simp only [Nat.add_zero] at h0
  cases h1:L i
  ·simp only [Bool.false_eq_true,if_false]
   exact Zi2 as_ (i+1) t fun k b hk hL=>h (k+1) b (by simpa using hk) (by rwa [show i+(k+1)=i+1+k by omega])
  ·simp only [if_true]
   rw [ZnY (h0 h1)]
   exact Zi2 as_ (i+1) _ fun k b hk hL=>h (k+1) b (by simpa using hk) (by rwa [show i+(k+1)=i+1+k by omega])
theorem Zi1 {L:Nat→Bool} {u:Upd}:∀ (as_:List RA) (i:Nat) (m:Mem),(∀ k a,as_[k]?=some a→L (i+k)=true→∀ q∈u,∀ r∈a.u,q.1≠r.1)→stM L i as_ (app u m)=app u (stM L i as_ m)
 | [],_,_,_=>rfl
 | a::as_,i,m,h=>by
  simp only [stM]
  have h0:=h 0 a rfl
  simp only [Nat.add_zero] at h0
  cases h1:L i
  ·simp only [Bool.false_eq_true,if_false]
   exact Zi1 as_ (i+1) m fun k b hk hL=>h (k+1) b (by simpa using hk) (by rwa [show i+(k+1)=i+1+k by omega])
  ·simp only [if_true]
   rw [Zlb u a.u m (h0 h1)]
   exact Zi1 as_ (i+1) _ fun k b hk hL=>h (k+1) b (by simpa using hk) (by rwa [show i+(k+1)=i+1+k by omega])
def ins (L:Nat→Bool) (j:Nat):Nat→Bool:=fun i=>if i=j then true else L i
theorem stT_lt {L L':Nat→Bool}:∀ (as_:List RA) (i:Nat) (t:List PV),(∀ k,k<as_.length→L (i+k)=L' (i+k))→stT L i as_ t=stT L' i as_ t
 | [],_,_,_=>rfl
 | a::as_,i,t,h=>by
  simp only [stT]
  have h0:=h 0 (by simp)
  simp only [Nat.add_zero] at h0
  rw [h0]
  exact stT_lt as_ (i+1) _ fun k hk=>by rw [show i+1+k=i+(k+1) by omega]; exact h (k+1) (by simpa using hk)
theorem stM_lt {L L':Nat→Bool}:∀ (as_:List RA) (i:Nat) (m:Mem),(∀ k,k<as_.length→L (i+k)=L' (i+k))→stM L i as_ m=stM L' i as_ m
 | [],_,_,_=>rfl
 | a::as_,i,m,h=>by
  simp only [stM]
  have h0:=h 0 (by simp)
  simp only [Nat.add_zero] at h0
  rw [h0]
  exact stM_lt as_ (i+1) _ fun k hk=>by rw [show i+1+k=i+(k+1) by omega]; exact h (k+1) (by simpa using hk)
theorem stT_ins {L:Nat→Bool} {a0:RA}:∀ (as_:List RA) (i k0:Nat) (t:List PV),as_[k0]?=some a0→L (i+k0)=false→(∀ k a,as_[k]?=some a→k0<k→L (i+k)=true→a0.d=none∨a0.d≠a.d)→stT (ins L (i+k0)) i as_ t=putP (stT L i as_ t) a0.d a0.p
 | [],_,_,_,h,_,_=>by simp at h
 | a::as_,i,k0,t,h,hL,hd=>by
  simp only [stT]
  cases k0 with
  | zero=>
   obtain rfl:a=a0:=by simpa using h
   simp only [Nat.add_zero] at hL ⊢
   have ei:ins L i i=true:=by simp [ins]
   simp only [ei,if_true,hL,Bool.false_eq_true,if_false]
   have e:stT (ins L i) (i+1) as_ (putP t a.d a.p)=stT L (i+1) as_ (putP t a.d a.p):=stT_lt as_ (i+1) _ fun k hk=>by simp only [ins]; rw [if_neg (by omega)]
   rw [e]
   exact Zi2 as_ (i+1) t fun k b hk hb=>hd (k+1) b (by simpa using hk) (by omega) (by rwa [show i+(k+1)=i+1+k by omega])
  | succ k0=>
   have e1:ins L (i+(k0+1)) i=L i:=by simp only [ins]; rw [if_neg (by omega)]
   rw [e1,show i+(k0+1)=i+1+k0 by omega]
   exact stT_ins as_ (i+1) k0 _ (by simpa using h) (by rwa [show i+(k0+1)=i+1+k0 by omega] at hL) fun k b hk hlt hb=>hd (k+1) b (by simpa using hk) (by omega) (by rwa [show i+(k+1)=i+1+k by omega])
theorem stM_ins {L:Nat→Bool} {a0:RA}:∀ (as_:List RA) (i k0:Nat) (m:Mem),as_[k0]?=some a0→L (i+k0)=false→(∀ k a,as_[k]?=some a→k0<k→L (i+k)=true→∀ q∈a0.u,∀ r∈a.u,q.1≠r.1)→stM (ins L (i+k0)) i as_ m=app a0.u (stM L i as_ m)
 | [],_,_,_,h,_,_=>by simp at h
 | a::as_,i,k0,m,h,hL,hd=>by
  simp only [stM]
  cases k0 with
  | zero=>
   obtain rfl:a=a0:=by simpa using h
   simp only [Nat.add_zero] at hL ⊢
   have ei:ins L i i=true:=by simp [ins]
   simp only [ei,if_true,hL,Bool.false_eq_true,if_false]
   have e:stM (ins L i) (i+1) as_ (app a.u m)=stM L (i+1) as_ (app a.u m):=stM_lt as_ (i+1) _ fun k hk=>by simp only [ins]; rw [if_neg (by omega)]
   rw [e]
   exact Zi1 as_ (i+1) m fun k b hk hb=>hd (k+1) b (by simpa using hk) (by omega) (by rwa [show i+(k+1)=i+1+k by omega])
  | succ k0=>
   have e1:ins L (i+(k0+1)) i=L i:=by simp only [ins]; rw [if_neg (by omega)]
   rw [e1,show i+(k0+1)=i+1+k0 by omega]
   exact stM_ins as_ (i+1) k0 _ (by simpa using h) (by rwa [show i+(k0+1)=i+1+k0 by omega] at hL) fun k b hk hlt hb=>hd (k+1) b (by simpa using hk) (by omega) (by rwa [show i+(k+1)=i+1+k by omega])
/-! The check: what is not ordered is apart. -/
structure LE where
 rd:List Nat
 wr:List Nat
 ts:List Nat
 d:Option Nat
instance:Inhabited LE:=⟨⟨[],[],[],none⟩⟩
def gslot (ops:Array Oper) (o:Oper):List Nat:=match o.guard with
 | none=>[]
 | some (j,_)=>((ops[j]?).bind (·.dst)).toList
def tmpOf:Operand→List Nat
 | .tmp i=>[i]
 | _=>[]
def slots (ops:Array Oper) (o:Oper):List Nat:=(o.op.operands.toList.flatMap tmpOf)++gslot ops o
def leOf (ops:Array Oper) (o:Oper) (t:List PV) (wd ν:Nat):LE:=⟨opR o.op t,opW o.op t wd ν,slots ops o,o.dst⟩
def le0 (ops:Array Oper) (o:Oper):LE:=⟨[],[],slots ops o,o.dst⟩
def apartL (a b:List Nat):Bool:=a.all fun x=>!b.contains x
theorem apartL_ne {a b:List Nat} (h:apartL a b=true) {x y:Nat} (hx:x∈a) (hy:y∈b):x≠y:=by
 rintro rfl
 have:=List.all_eq_true.1 h x hx
 simp at this
 exact this hy
def apart2 (a b:LE):Bool:=apartL a.wr b.rd && apartL a.wr b.wr && apartL b.wr a.rd && apartL a.d.toList b.ts && apartL b.d.toList a.ts && apartL a.d.toList b.d.toList
def maskOf (acc:List Nat) (o:Oper):Nat:=o.after.toList.foldr (fun e s=>if Region.binds .any e then s ||| 2 ^ e.on ||| acc.getD e.on 0 else s) 0
def masks:List Oper→List Nat→List Nat
 | [],acc=>acc
 | o::rest,acc=>masks rest (acc++[maskOf acc o])
def chkD (ops:List Oper) (g:List LE):Bool:=
 let ms:=masks ops []
 (List.range ops.length).all fun j=>(((ops[j]?).map (·.after.all fun e=>!Region.binds .any e || decide (e.on<j))).getD false) && (List.range j).all fun i=>(ms.getD j 0).testBit i || apart2 (g.getD i default) (g.getD j default)
end Go.Proofs.YtmcdjilbkmhfoaaGreat
