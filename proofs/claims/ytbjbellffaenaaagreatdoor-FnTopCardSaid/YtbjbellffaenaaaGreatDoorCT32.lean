/- A part of the proof of this claim's last theorem. No condition. -/
import Derived.Test.YtbjbellffaenaaaGreatDoorCT28
set_option linter.all false
set_option maxRecDepth 100000
open Go.Value renaming int->Zh
open Go.IntKind renaming i64->Zi
open Go renaming undef->Zj
open Option renaming some->F,none->V
open Bool renaming true->Ze,false->Z
open Decidable renaming decide->Zg
open List renaming length->K
open Option renaming bind->R
open _root_ renaming ByteArray->L,Int->C,List->D,Nat->M,Option->J,cond->G
open Go.Proofs.YtbjbellffaenaaaGreatDoor renaming YA->Y,vi->X
open Go.Proofs.Tryz
set_option maxHeartbeats 40000000
open Option.some renaming inj->VV,injEq->V8
open List renaming range_succ->X9,append_nil->Xc,getElem?_eq_getElem->VS,take_of_length_le->Xh,take_length->XF,length_filter_le->WV,take_succ_eq_append_getElem->Wt,length_cons->V0,length_nil->V2,pairwise_cons->Wx,mem_cons->VY,mem_of_getElem?->VU,getElem?_eq_some_iff->VT
open Nat renaming le_refl->VW,le_trans->Wd,lt_of_lt_of_le->Wn
open _root_.Array renaming getElem?_eq_some_iff->V6,getElem?_eq_getElem->V4
open Option renaming bind_some->VR
open Bool renaming not_true->VX
namespace Go.Proofs.YtbjbellffaenaaaGreatDoor
open Go.RowKit Go.Lib Go.Sort
def oU(n:ab)(s:aI):Bool:=(cz n s).getD Z
def uo(n:ab)(l:D aI):D aI:=(l.take 200).filter (oU n)
def R6(ys:D aI)(k:M):D aI:=(List.range k).flatMap λi=>match ys[i]? with
 |some y=>if i=0\/¬ys[i-1]?=F y then [y]else []
 |none=>[]
def Zbj:Tx prog 31 89 (eZ.k aI) 56:=Tx.mk' (z:=.agg #[I 0,I 0,I 0,.string ⟨#[]⟩,I 0,I 0]) Tryz.underlying31 YC rfl
section
variable {n:ab} (hf:cD n) {w:World} {O:M->Prop} (ht:DM w O) {v0 v1:Value} (h0:eO w (SW w) (.sl (n.aC.map cY)) v0) (h1:eO w (SW w) (.sl (n.off.map aW)) v1)
include hf ht h0 h1
theorem Zb1{W:World}(hu:Up w W)(s:aI):
 Calls prog 91 #[.agg #[v0,v1,I n.change],.agg #[I s.aR,I s.aQ,I s.kind,.string s.place,I s.aN.bq,I s.aN.day]] W λe w'=>e=.returned (.bool (oU n s))/\Up W w':=by
 have o0:=h0.one YE YE;have o1:=h1.one YE YE;have hm:gI n s=F (oU n s):=by rw[Dc hf];obtain⟨b,hb⟩:=vS hf s;unfold oU;rw[hb];rfl
 have hC:=CT.ok (P:=prog) hm;simp only[CT.f,CT.args,CT.m0,CT.res,CT.mem]at hC
 refine eh.Zac hC (AW ht (O':=λ_=>False) ⟨hu.os,hu.tape,hu.output,hu.size,λb hb _=>hu.block b hb⟩ λb _ h=>h.elim) rfl λi p hp=>?_
 match i with
 |0=>
  obtain rfl:_=p:=VV hp;refine⟨_,rfl,.ag _ _ rfl (λj x hx=>?_) λj p x hp hx=>?_⟩
  ·match j with
   |0=>obtain rfl:_=x:=VV hx
       exact o0
   |1=>obtain rfl:_=x:=VV hx
       exact o1
   |2=>obtain rfl:_=x:=VV hx
       rfl
   |j+3=>simp at hx
  ·match j with
   |0=>obtain rfl:_=x:=VV hx
       obtain rfl:_=p:=VV hp;exact .c (uI h0 hu)
   |1=>obtain rfl:_=x:=VV hx
       obtain rfl:_=p:=VV hp;exact .c (uI h1 hu)
   |2=>obtain rfl:_=x:=VV hx
       obtain rfl:_=p:=VV hp;exact tZ _ rfl
   |j+3=>simp at hx
 |1=>
  obtain rfl:_=p:=VV hp;refine⟨_,rfl,.ag _ _ rfl (λj x hx=>?_) λj p x hp hx=>?_⟩
  ·match j with
   |0=>obtain rfl:_=x:=VV hx
       rfl
   |1=>obtain rfl:_=x:=VV hx
       rfl
   |2=>obtain rfl:_=x:=VV hx
       rfl
   |3=>obtain rfl:_=x:=VV hx
       rfl
   |4=>obtain rfl:_=x:=VV hx
       rfl
   |5=>obtain rfl:_=x:=VV hx
       rfl
   |j+6=>simp at hx
  ·match j with
   |0=>obtain rfl:_=x:=VV hx
       obtain rfl:_=p:=VV hp;exact tZ _ rfl
   |1=>obtain rfl:_=x:=VV hx
       obtain rfl:_=p:=VV hp;exact tZ _ rfl
   |2=>obtain rfl:_=x:=VV hx
       obtain rfl:_=p:=VV hp;exact tZ _ rfl
   |3=>obtain rfl:_=x:=VV hx
       obtain rfl:_=p:=VV hp;exact tZ _ rfl
   |4=>obtain rfl:_=x:=VV hx
       obtain rfl:_=p:=VV hp;exact tZ _ rfl
   |5=>obtain rfl:_=x:=VV hx
       obtain rfl:_=p:=VV hp;exact tZ _ rfl
   |j+6=>simp at hx
 |i+2=>simp at hp
end
def SG{w:World}{B Bx:M}{v v':Value}{xs:D aI}(h:Own w B 89 v xs)(hx:w.heap[Bx]?=F (.cells #[v'] 31 (0,0))):v.ownBlock≠F Bx:=by
 rcases h.2 with⟨hv,_⟩ |⟨g,cap,cur,hv,hB,hg,_⟩
 ·rw[hv];simp[Value.ownBlock]
 ·rw[hv]
  intro e;have:g=Bx:=by simpa[Value.ownBlock]using e
  subst this;rw[hg]at hx
  simp at hx
def R8(ys:D aI)(j:M)(hj:j<K ys):R6 ys (j+1)=R6 ys j++(if j=0\/¬ys[j-1]?=F ys[j]then [ys[j]]else []):=by
 unfold R6;rw[X9,List.flatMap_append];simp only[List.flatMap_cons,List.flatMap_nil,Xc,VS hj]
def Zk1{p x:aI}(h:¬p=x):¬p.aR=x.aR\/(p.aR=x.aR/\¬p.aQ=x.aQ)\/(p.aR=x.aR/\p.aQ=x.aQ/\¬p.kind=x.kind)\/(p.aR=x.aR/\p.aQ=x.aQ/\p.kind=x.kind/\¬p.place.toList=x.place.toList)\/
 (p.aR=x.aR/\p.aQ=x.aQ/\p.kind=x.kind/\p.place=x.place/\¬p.aN.bq=x.aN.bq)\/(p.aR=x.aR/\p.aQ=x.aQ/\p.kind=x.kind/\p.place=x.place/\p.aN.bq=x.aN.bq/\¬p.aN.day=x.aN.day):=by
 by_cases h1:p.aR=x.aR
 ·by_cases h2:p.aQ=x.aQ
  ·by_cases h3:p.kind=x.kind
   ·by_cases h4:p.place=x.place
    ·by_cases h5:p.aN.bq=x.aN.bq
     ·by_cases h6:p.aN.day=x.aN.day
      ·refine absurd ?_ h
       obtain⟨a,b,c,d,⟨e,f⟩⟩:=p;obtain⟨a',b',c',d',⟨e',f'⟩⟩:=x;simp only at h1 h2 h3 h4 h5 h6
       subst h1 h2 h3 h4 h5 h6;rfl
      ·exact .inr (.inr (.inr (.inr (.inr ⟨h1,h2,h3,h4,h5,h6⟩))))
     ·exact .inr (.inr (.inr (.inr (.inl ⟨h1,h2,h3,h4,h5⟩))))
    ·exact .inr (.inr (.inr (.inl ⟨h1,h2,h3,λe=>h4 (by rw[<-baL];exact e)⟩)))
   ·exact .inr (.inr (.inl ⟨h1,h2,h3⟩))
  ·exact .inr (.inl ⟨h1,h2⟩)
 ·exact .inl h1
section
variable {n:ab} (hf:cD n) {w:World} {O:M->Prop} (ht:DM w O) {v0 v1:Value} (h0:eO w (SW w) (.sl (n.aC.map cY)) v0) (h1:eO w (SW w) (.sl (n.off.map aW)) v1)
 {l:D aI} (hl:l.length<=1048576) {A:J Addr} {ln:M} (hln:l.length<=ln) (hlm:l≠[]->ln<=maxLen) (hlr:Rd w w.heap.size A l)
include hf ht h0 h1 hl hln hlr
theorem Zgh:Calls prog 222 #[.agg #[v0,v1,I n.change],.slice A (K l) ln] w λe w'=>∃v ys,e=.returned v/\ys.Perm (uo n l)/\ys.Pairwise (λa b=>LY b a=Z)/\Own w' w.heap.size 89 v (R6 ys (K ys))/\Up w w':=by
 have hA:=fun(W:World) (hu:Up w W) (s:aI)=>Zb1 hf ht h0 h1 hu s
 have HA:Hid _:=hA;have HL:Hid (Rd w w.heap.size A l):=hlr;have HT:Hid (DM w O):=ht;have ZeM:(if(200:C)<(K l:C)then(200:C)else(K l:C))=((min (K l) 200:M):C):=by split<;>omega
 clear hA hf ht h0 h1 hlr
 go_enter func222,ntmps222
 go_wp2_with fail
 have e16:(min (K l:C) 200).toNat=min (K l) 200:=Y;have e17:max (min (K l:C) 200) 0=((min (K l) 200:M):C):=Y;rw[e16,e17];clear e16 e17;have LR:min (K l) 200<=K l:=Y;have CB:min (K l) 200<=200:=Y;have hmt:l.take 200=l.take (min (K l) 200):=by
  rcases Nat.le_total (K l) 200 with h|h
  ·rw[Nat.min_eq_left h,Xh h,XF]
  ·rw[Nat.min_eq_right h]
 have HMT:=Lib.hid hmt;clear hmt;generalize hmm:min (K l) 200=m at LR CB HMT⊢
 clear hmm
 go_loopw [18] (λX wr=>∃(i:M) (v:Value),X=Zh Zi i/\i<=m/\Own wr (w.heap.size+1) 89 v ((l.take i).filter (oU n))/\wr.heap[w.heap.size+2]?=F (.cells #[v] 31 (0,0))/\Up (w.alloc (.cells #[v0,v1,I n.change] 27)) wr) (λX _=>m-(intOf X).toNat)
 case atStart=>
  refine⟨0,.slice (F ⟨w.heap.size+1,0,V⟩) 0 0,by go_num,Y,?_,?_,?_⟩
  ·refine⟨by rw[nd],.inr ⟨w.heap.size+1,0,#[],rfl,VW _,?_,by simp,by unfold maxLen;omega,by simp,by simp[flat]⟩⟩
   rw[heap_alloc_old _ _ YE];have:=heap_alloc_new (w.alloc (.cells #[v0,v1,I n.change] 27)) (.cells #[] 89)
   simpa using this
  ·have:=heap_alloc_new ((w.alloc (.cells #[v0,v1,I n.change] 27)).alloc (.cells #[] 89)) (.cells #[.slice (F ⟨w.heap.size+1,0,V⟩) 0 0] 31)
   simpa using this
  ·exact Up.al _ (Up.al _ (Up.rfl' _))
 case round=>
  obtain⟨i,v,rfl,hi,hv,hx,BM⟩:=hrel;obtain⟨A3,c3,rfl,hc3,hm3⟩:=hv.form;have hvl:K ((l.take i).filter (oU n))<=200:=Wd (WV _ _) (by rw[List.length_take];omega)
  have hcx:wr.cell? ⟨w.heap.size+2,0,V⟩=F (.slice A3 (K ((l.take i).filter (oU n))) c3):=by rw[cell_of_row wr _ 0 _ _ (0,0) hx];rfl
  have hz:w.heap.size+2<wr.heap.size:=(V6.1 hx).1;have HV:=Lib.hid hv;have HX:=Lib.hid hx;have HWR:=Lib.hid BM;have e0:wr.cell? ⟨w.heap.size,0,V⟩=F v0:=gD YE YE BM;have e1:wr.cell? ⟨w.heap.size,1,V⟩=F v1:=gD YE YE BM;have e2:wr.cell? ⟨w.heap.size,2,V⟩=F (I n.change):=gD YE YE BM;clear hv hx BM hc3 hm3
  by_cases bD:i<m
  ·have CA:i<K l:=Y
   obtain⟨b,off,rfl,Pw,ta⟩:=(HL.out.up (Up.step HWR.out (Up.al _ (Up.rfl' w)))).aQ (VS CA);have d0:wr.cell? ⟨b,off+i*6,V⟩=F (I l[i].aR):=ta 0 _ rfl;have d1:wr.cell? ⟨b,off+i*6+1,V⟩=F (I l[i].aQ):=ta 1 _ rfl;have d2:wr.cell? ⟨b,off+i*6+2,V⟩=F (I l[i].kind):=ta 2 _ rfl;have d3:wr.cell? ⟨b,off+i*6+3,V⟩=F (.string l[i].place):=ta 3 _ rfl;have d4:wr.cell? ⟨b,off+i*6+4,V⟩=F (I l[i].aN.bq):=ta 4 _ rfl;have d5:wr.cell? ⟨b,off+i*6+5,V⟩=F (I l[i].aN.day):=ta 5 _ rfl;clear ta;have hz0:w.heap.size<wr.heap.size:=Y;have Nl:(l.take (i+1)).filter (oU n)=(l.take i).filter (oU n)++(if oU n l[i]=Ze then [l[i]]else []):=by
    rw[Wt CA,List.filter_append]
    by_cases h:oU n l[i]=Ze
    ·simp[h]
    ·simp[h]
   have HTK:=Lib.hid Nl;clear Nl;generalize l[i]=x at d0 d1 d2 d3 d4 d5 HTK⊢
   cases hok:oU n x with
   |false=>
    have HOK:=Lib.hid hok;clear hok
    go_wp2_with (go_at_call 91;refine(HA.out _ YB x).mono ?_;rintro e w5 ⟨rfl,vQ⟩;rw[HOK.out];refine Hid.out ?_)
    have hx5:w5.heap[w.heap.size+2]?=F (.cells #[.slice A3 (K ((l.take i).filter (oU n))) c3] 31 (0,0)):=(vQ.block _ YL).trans (((Up.al _ (Up.rfl' wr)).block _ hz).trans HX.out);have zM:Up (w.alloc (.cells #[v0,v1,I n.change] 27)) w5:=Up.step vQ (Up.al _ HWR.out);have Sp:=HV.out.up (Up.step vQ (Up.al _ (Up.rfl' wr)));have HX5:=Lib.hid hx5;have HW5:=Lib.hid zM;have HV5:=Lib.hid Sp;clear hx5 zM Sp vQ;refine Lib.hid ?_
    go_wp2
    refine⟨⟨i+1,_,by go_num,Y,?_,HX5.out,HW5.out⟩,by simp[intOf];omega⟩
    rw[HTK.out,HOK.out,if_neg YE,Xc];exact HV5.out
   |true=>
    have HOK:=Lib.hid hok;clear hok
    go_wp2_with (go_at_call 91;refine(HA.out _ YB x).mono ?_;rintro e w5 ⟨rfl,vQ⟩;rw[HOK.out];refine Hid.out ?_)
    have f0:w5.cell? ⟨wr.heap.size,0,V⟩=F (I x.aR):=gD YE YE vQ;have f1:w5.cell? ⟨wr.heap.size,1,V⟩=F (I x.aQ):=gD YE YE vQ;have f2:w5.cell? ⟨wr.heap.size,2,V⟩=F (I x.kind):=gD YE YE vQ;have f3:w5.cell? ⟨wr.heap.size,3,V⟩=F (.string x.place):=gD YE YE vQ;have f4:w5.cell? ⟨wr.heap.size,4,V⟩=F (I x.aN.bq):=gD YE YE vQ;have f5:w5.cell? ⟨wr.heap.size,5,V⟩=F (I x.aN.day):=gD YE YE vQ;have hs5:wr.heap.size+1<=w5.heap.size:=by have:=vQ.size;simpa using this
    have hx5:w5.heap[w.heap.size+2]?=F (.cells #[.slice A3 (K ((l.take i).filter (oU n))) c3] 31 (0,0)):=(vQ.block _ YL).trans (((Up.al _ (Up.rfl' wr)).block _ hz).trans HX.out);have fx:w5.cell? ⟨w.heap.size+2,0,V⟩=F (.slice A3 (K ((l.take i).filter (oU n))) c3):=by rw[cell_of_row w5 _ 0 _ _ (0,0) hx5];rfl
    have zM:Up (w.alloc (.cells #[v0,v1,I n.change] 27)) w5:=Up.step vQ (Up.al _ HWR.out);have Sp:=HV.out.up (Up.step vQ (Up.al _ (Up.rfl' wr)));have Gj:Rd (w5.alloc (.cells #[I x.aR,I x.aQ,I x.kind,.string x.place,I x.aN.bq,I x.aN.day] 89)) (w5.heap.size+1) (F ⟨w5.heap.size,0,V⟩) [x]:=Rd.one w5 89 x (w5.heap.size+1) Y;have HX5:=Lib.hid hx5;have HW5:=Lib.hid zM;have HV5:=Lib.hid Sp;have HR1:=Lib.hid Gj;have hz5:w.heap.size+2<w5.heap.size:=Y;have hz6:w5.heap.size≠w.heap.size+2:=Y;have hz7:w.heap.size+2≠w5.heap.size:=Y;clear hx5 zM Sp Gj vQ d0 d1 d2 d3 d4 d5 e0 e1 e2 hcx;refine Lib.hid ?_
    go_wp2_with (at_builtin;refine gb Zbj rfl (.tmp 25) (.tmp 27) rfl (base:=w.heap.size+1) (ys:=(l.take i).filter (oU n)) (xs:=[x]) YT (HV5.out.up YB) 1 YT rfl HR1.out Y2 YX YL ?_;intro v' w6 ho6 hg6 _ Sn;refine Hid.out ?_)
    have hx6:w6.heap[w.heap.size+2]?=F (.cells #[.slice A3 (K ((l.take i).filter (oU n))) c3] 31 (0,0)):=by
     rw[hg6.block _ YL (λe=>SG HV5.out HX5.out e.symm)]
     exact((Up.al _ (Up.rfl' w5)).block _ hz5).trans HX5.out
    obtain⟨A4,c4,rfl,hc4,hm4⟩:=ho6.form;have hl6:K ((l.take i).filter (oU n)++[x])=K ((l.take i).filter (oU n))+1:=by simp
    rw[hl6]at ho6⊢
    clear hl6;have Zmg:w6.cell? ⟨w.heap.size+2,0,V⟩=F (.slice A3 (K ((l.take i).filter (oU n))) c3):=by rw[cell_of_row w6 _ 0 _ _ (0,0) hx6];rfl
    have Zn6:w6.frozen? ⟨w.heap.size+2,0,V⟩=false:=by simp[World.frozen?,hx6]
    have Nq:Up (w.alloc (.cells #[v0,v1,I n.change] 27)) w6:=Sn _ YE (Up.al _ HW5.out);have HX6:=Lib.hid hx6;have HO6:=Lib.hid ho6;have HW6:=Lib.hid Nq;clear hx6 ho6 hg6 Sn Nq hc4 hm4;refine Lib.hid ?_
    go_wp2
    refine⟨⟨i+1,_,by go_num,Y,?_,heap_setCell_same w6 _ 0 _ _ _ HX6.out,Up.sc HW6.out YE _⟩,by simp[intOf];omega⟩
    rw[HTK.out,HOK.out,if_pos rfl];exact HO6.out.grown (row:=F (w.heap.size+2)) ⟨rfl,rfl,rfl,by simp,λk hk gL=>heap_setCell_other _ _ _ _ (λe=>gL Zb)⟩ (.inr (SG HO6.out HX6.out))
  ·have hie:i=m:=Y
   subst hie;have hvs:(l.take i).filter (oU n)=uo n l:=by unfold uo;rw[HMT.out]
   rw[hvs]at HV HX hcx hvl
   clear hvs;have tV:=Zdw HV.out HX.out Y (Tk HT.out (Up.step HWR.out (Up.al _ (Up.rfl' w))) Y) (λb h=>h)
   have Cz:¬(i:C)<(i:C):=Y
   go_wp2_with (go_at_call 231;refine tV.mono ?_;rintro e w4 ⟨rfl,ys,hp,hs,ho4,Np⟩;refine Hid.out ?_)
   have hyl:K ys=K (uo n l):=hp.length_eq;have Kn:Up (w.alloc (.cells #[v0,v1,I n.change] 27)) w4:=by
    have h:=HWR.out;exact⟨Np.os.trans h.os,Np.tape.trans h.tape,Np.output.trans h.output,Wd h.size Np.size,λb hb=>(Np.block b (Wn hb h.size) (λhh=>by simp at hb;omega)).trans (h.block b hb)⟩
   have ex:w4.heap[w.heap.size+2]?=F (.cells #[.slice A3 (K (uo n l)) c3] 31 (0,0)):=(Np.block _ hz (λhh=>hh.2 rfl)).trans HX.out
   have exc:w4.cell? ⟨w.heap.size+2,0,V⟩=F (.slice A3 (K (uo n l)) c3):=by rw[cell_of_row w4 _ 0 _ _ (0,0) ex];rfl
   have IN:Rd w4 w4.heap.size A3 ys:=by
    rw[<-hyl]at ho4
    obtain⟨A5,c5,e5,h5,h6⟩:=ho4.form;obtain⟨rfl,rfl⟩:A3=A5/\c3=c5:=by simpa using e5
    exact ho4.rd
   have HYL:=Lib.hid hyl;have HA3:=Lib.hid (show A3=A3 from rfl);have hz4:w.heap.size+2<w4.heap.size:=Wn hz Np.size;have HRD:=Lib.hid IN;have HUP:=Lib.hid Kn;have HP:=Lib.hid hp;have HS:=Lib.hid hs;clear tV hp hs ho4 Np Kn ex IN hyl;refine Lib.hid ?_
   go_wp2_with fail
   have hNl:K (uo n l)<=200:=hvl;generalize hNN:K (uo n l)=N at *
   clear hNN
   go_loopw [37,8] (λX v8 wr=>∃(i:M),X=Zh Zi i/\i<=N/\Own wr w4.heap.size 89 v8 (R6 ys i)/\Up w4 wr) (λX _ _=>N-(intOf X).toNat)
   case atStart=>
    refine⟨0,by go_num,Y,?_,Up.al _ (Up.rfl' _)⟩
    rw[show R6 ys 0=[]from rfl];exact⟨by rw[nd],.inr ⟨w4.heap.size,0,#[],rfl,VW _,heap_alloc_new _ _,by simp,by unfold maxLen;omega,by simp,by simp[flat]⟩⟩
   case round=>
    obtain⟨j,rfl,hj,hv,BM⟩:=hrel;obtain⟨A6,c6,rfl,hc6,hm6⟩:=hv.form;have HV2:=Lib.hid hv;have TD:=Lib.hid BM;have hzr:w.heap.size+2<wr.heap.size:=Wn hz4 BM.size;have hcx:wr.cell? ⟨w.heap.size+2,0,V⟩=F (.slice A3 N c3):=gD exc hz4 BM;clear hv BM hc6 hm6
    by_cases bD:j<N
    ·have EZ:j<K ys:=by rw[HYL.out];exact bD
     obtain⟨b,off,hA3,Pw,ta⟩:=(HRD.out.up TD.out).aQ (VS EZ);subst hA3;have d0:wr.cell? ⟨b,off+j*6,V⟩=F (I ys[j].aR):=ta 0 _ rfl;have d1:wr.cell? ⟨b,off+j*6+1,V⟩=F (I ys[j].aQ):=ta 1 _ rfl;have d2:wr.cell? ⟨b,off+j*6+2,V⟩=F (I ys[j].kind):=ta 2 _ rfl;have d3:wr.cell? ⟨b,off+j*6+3,V⟩=F (.string ys[j].place):=ta 3 _ rfl;have d4:wr.cell? ⟨b,off+j*6+4,V⟩=F (I ys[j].aN.bq):=ta 4 _ rfl;have d5:wr.cell? ⟨b,off+j*6+5,V⟩=F (I ys[j].aN.day):=ta 5 _ rfl;clear ta;have iZ:(j:C)<(N:C):=Y;have hdl:K (R6 ys j)<=200:=by
      have:∀k,K (R6 ys k)<=k:=λk=>by
       induction k with
       |zero=>simp[R6]
       |succ k ih=>
        unfold R6 at ih⊢
        rw[X9,List.flatMap_append,List.length_append];simp only[List.flatMap_cons,List.flatMap_nil,Xc]
        split
        ·split<;>simp only[V0,V2]<;>omega
        ·simp only[V2];omega
      have:=this j;omega
     have HDD:=Lib.hid (R8 ys j EZ);have hpx:∀(h:¬j=0),∃p,ys[j-1]?=F p:=λh=>⟨_,VS (show j-1<K ys by omega)⟩
     have HPX:=Lib.hid hpx;clear hpx;generalize ys[j]=x at d0 d1 d2 d3 d4 d5 HDD⊢
     by_cases hj0:j=0
     ·have hjb:((j:C)==0)=true:=by simp[hj0]
      have Zhf:Hid (j=0\/¬ys[j-1]?=F x):=.inl hj0;clear hj0
      go_wp2_with fail
      (
       have f0:(wr.alloc (.cells #[I x.aR,I x.aQ,I x.kind,.string x.place,I x.aN.bq,I x.aN.day] 89)).cell? ⟨wr.heap.size,0,V⟩=F (I x.aR):=by simp
       have f1:(wr.alloc (.cells #[I x.aR,I x.aQ,I x.kind,.string x.place,I x.aN.bq,I x.aN.day] 89)).cell? ⟨wr.heap.size,1,V⟩=F (I x.aQ):=by simp
       have f2:(wr.alloc (.cells #[I x.aR,I x.aQ,I x.kind,.string x.place,I x.aN.bq,I x.aN.day] 89)).cell? ⟨wr.heap.size,2,V⟩=F (I x.kind):=by simp
       have f3:(wr.alloc (.cells #[I x.aR,I x.aQ,I x.kind,.string x.place,I x.aN.bq,I x.aN.day] 89)).cell? ⟨wr.heap.size,3,V⟩=F (.string x.place):=by simp
       have f4:(wr.alloc (.cells #[I x.aR,I x.aQ,I x.kind,.string x.place,I x.aN.bq,I x.aN.day] 89)).cell? ⟨wr.heap.size,4,V⟩=F (I x.aN.bq):=by simp
       have f5:(wr.alloc (.cells #[I x.aR,I x.aQ,I x.kind,.string x.place,I x.aN.bq,I x.aN.day] 89)).cell? ⟨wr.heap.size,5,V⟩=F (I x.aN.day):=by simp
       have fu:Up wr (wr.alloc (.cells #[I x.aR,I x.aQ,I x.kind,.string x.place,I x.aN.bq,I x.aN.day] 89)):=Up.al _ (Up.rfl' wr);generalize (wr.alloc (.cells #[I x.aR,I x.aQ,I x.kind,.string x.place,I x.aN.bq,I x.aN.day] 89))=w5 at f0 f1 f2 f3 f4 f5 fu⊢
       (have Ef0:=uM.cell f0;have Ef1:=uM.cell f1;have Ef2:=uM.cell f2;have Ef3:=uM.cell f3;have Ef4:=uM.cell f4;have Ef5:=uM.cell f5;refine xS YC YC ?_;(repeat(go_big_quiet_step (fail)));refine wpQuiet_nil ?_;intro LC vI;clear Ef0 Ef1 Ef2 Ef3 Ef4 Ef5;replace f0:=gl f0 vI;replace f1:=gl f1 vI;replace f2:=gl f2 vI;replace f3:=gl f3 vI;replace f4:=gl f4 vI;replace f5:=gl f5 vI)
       refine Hid.out ?_)
      have zM:Up w4 LC:=Up.step vI (Up.step fu TD.out);have Sp:=HV2.out.up (Up.step vI fu);have hs5:w.heap.size+2<LC.heap.size:=Wn hzr (Wd fu.size vI.size);have hs6:w4.heap.size<=LC.heap.size:=zM.size;have Gj:Rd (LC.alloc (.cells #[I x.aR,I x.aQ,I x.kind,.string x.place,I x.aN.bq,I x.aN.day] 89)) (LC.heap.size+1) (F ⟨LC.heap.size,0,V⟩) [x]:=Rd.one LC 89 x (LC.heap.size+1) Y;have HW5:=Lib.hid zM;have HV5:=Lib.hid Sp;have HR1:=Lib.hid Gj;clear zM Sp Gj vI fu;refine Lib.hid ?_
      go_wp2_with (at_builtin;refine gb Zbj rfl (.tmp 53) (.tmp 55) rfl (base:=w4.heap.size) (ys:=R6 ys j) (xs:=[x]) YT (HV5.out.up YB) 1 YT rfl HR1.out Y2 YX YL ?_;intro v' w6 ho6 hg6 _ Sn;refine Hid.out ?_)
      have Nq:Up w4 w6:=Sn _ YE (Up.al _ HW5.out);have HO6:=Lib.hid ho6;have HW6:=Lib.hid Nq;clear ho6 hg6 Sn Nq;refine Lib.hid ?_
      go_wp2
      refine⟨⟨j+1,by go_num,Y,?_,HW6.out⟩,by simp[intOf];omega⟩
      rw[HDD.out,if_pos Zhf.out];exact HO6.out
     ·obtain⟨p,Qi⟩:=HPX.out hj0
      obtain⟨k,hk⟩:∃k,j=k+1:=⟨j-1,Y⟩;have hk1:(j:C)-1=(k:C):=Y;have hkN:k<N:=Y;have hjb:((j:C)==0)=false:=by simp[hj0]
      rw[show j-1=k by omega]at Qi
      obtain⟨b',ZmZ,e',ZjX,ta⟩:=(HRD.out.up TD.out).aQ Qi;obtain⟨rfl,rfl⟩:b=b'/\off=ZmZ:=by simpa using e'
      have HP1:=Lib.hid Qi
      by_cases hpx:p=x
      ·subst hpx
       have HNO:Hid (¬(j=0\/¬ys[j-1]?=F p)):=λh=>by
        rcases h with h|h
        ·exact hj0 h
        ·exact h (by rw[show j-1=k by omega];exact HP1.out)
       clear hk hj0 Qi e';clear ZjX
       go_wp2_with fail
       (
        have f0:(wr.alloc (.cells #[I p.aR,I p.aQ,I p.kind,.string p.place,I p.aN.bq,I p.aN.day] 89)).cell? ⟨wr.heap.size,0,V⟩=F (I p.aR):=by simp
        have f1:(wr.alloc (.cells #[I p.aR,I p.aQ,I p.kind,.string p.place,I p.aN.bq,I p.aN.day] 89)).cell? ⟨wr.heap.size,1,V⟩=F (I p.aQ):=by simp
        have f2:(wr.alloc (.cells #[I p.aR,I p.aQ,I p.kind,.string p.place,I p.aN.bq,I p.aN.day] 89)).cell? ⟨wr.heap.size,2,V⟩=F (I p.kind):=by simp
        have f3:(wr.alloc (.cells #[I p.aR,I p.aQ,I p.kind,.string p.place,I p.aN.bq,I p.aN.day] 89)).cell? ⟨wr.heap.size,3,V⟩=F (.string p.place):=by simp
        have f4:(wr.alloc (.cells #[I p.aR,I p.aQ,I p.kind,.string p.place,I p.aN.bq,I p.aN.day] 89)).cell? ⟨wr.heap.size,4,V⟩=F (I p.aN.bq):=by simp
        have f5:(wr.alloc (.cells #[I p.aR,I p.aQ,I p.kind,.string p.place,I p.aN.bq,I p.aN.day] 89)).cell? ⟨wr.heap.size,5,V⟩=F (I p.aN.day):=by simp
        have fu:Up wr (wr.alloc (.cells #[I p.aR,I p.aQ,I p.kind,.string p.place,I p.aN.bq,I p.aN.day] 89)):=Up.al _ (Up.rfl' wr);have fx:(wr.alloc (.cells #[I p.aR,I p.aQ,I p.kind,.string p.place,I p.aN.bq,I p.aN.day] 89)).cell? ⟨w.heap.size+2,0,V⟩=F (.slice (F ⟨b,off,V⟩) N c3):=gD hcx hzr fu;have g0:(wr.alloc (.cells #[I p.aR,I p.aQ,I p.kind,.string p.place,I p.aN.bq,I p.aN.day] 89)).cell? ⟨b,off+k*6,V⟩=F (I p.aR):=gD (ta 0 _ rfl) Pw fu;have g1:(wr.alloc (.cells #[I p.aR,I p.aQ,I p.kind,.string p.place,I p.aN.bq,I p.aN.day] 89)).cell? ⟨b,off+k*6+1,V⟩=F (I p.aQ):=gD (ta 1 _ rfl) Pw fu;have g2:(wr.alloc (.cells #[I p.aR,I p.aQ,I p.kind,.string p.place,I p.aN.bq,I p.aN.day] 89)).cell? ⟨b,off+k*6+2,V⟩=F (I p.kind):=gD (ta 2 _ rfl) Pw fu;have g3:(wr.alloc (.cells #[I p.aR,I p.aQ,I p.kind,.string p.place,I p.aN.bq,I p.aN.day] 89)).cell? ⟨b,off+k*6+3,V⟩=F (.string p.place):=gD (ta 3 _ rfl) Pw fu;have g4:(wr.alloc (.cells #[I p.aR,I p.aQ,I p.kind,.string p.place,I p.aN.bq,I p.aN.day] 89)).cell? ⟨b,off+k*6+4,V⟩=F (I p.aN.bq):=gD (ta 4 _ rfl) Pw fu;have g5:(wr.alloc (.cells #[I p.aR,I p.aQ,I p.kind,.string p.place,I p.aN.bq,I p.aN.day] 89)).cell? ⟨b,off+k*6+5,V⟩=F (I p.aN.day):=gD (ta 5 _ rfl) Pw fu;clear ta;generalize (wr.alloc (.cells #[I p.aR,I p.aQ,I p.kind,.string p.place,I p.aN.bq,I p.aN.day] 89))=w5 at f0 f1 f2 f3 f4 f5 fu fx g0 g1 g2 g3 g4 g5⊢
        (have Ef0:=uM.cell f0;have Ef1:=uM.cell f1;have Ef2:=uM.cell f2;have Ef3:=uM.cell f3;have Ef4:=uM.cell f4;have Ef5:=uM.cell f5;have Efx:=uM.cell fx;have Eg0:=uM.cell g0;have Eg1:=uM.cell g1;have Eg2:=uM.cell g2;have Eg3:=uM.cell g3;have Eg4:=uM.cell g4;have Eg5:=uM.cell g5;refine xS YC YC ?_;(repeat(go_big_quiet_step (fail)));refine wpQuiet_nil ?_;intro LC vI;clear Ef0 Ef1 Ef2 Ef3 Ef4 Ef5 Efx Eg0 Eg1 Eg2 Eg3 Eg4 Eg5;replace f0:=gl f0 vI;replace f1:=gl f1 vI;replace f2:=gl f2 vI;replace f3:=gl f3 vI;replace f4:=gl f4 vI;replace f5:=gl f5 vI;replace fx:=gl fx vI;replace g0:=gl g0 vI;replace g1:=gl g1 vI;replace g2:=gl g2 vI;replace g3:=gl g3 vI;replace g4:=gl g4 vI;replace g5:=gl g5 vI)
        refine Hid.out ?_)
       have zM:Up w4 LC:=Up.step vI (Up.step fu TD.out);have Sp:=HV2.out.up (Up.step vI fu);have HW5:=Lib.hid zM;have HV5:=Lib.hid Sp;clear zM Sp vI fu;refine Lib.hid ?_
       go_wp2
       refine⟨⟨j+1,by go_num,Y,?_,HW5.out⟩,by simp[intOf];omega⟩
       rw[HDD.out,if_neg HNO.out,Xc];exact HV5.out
      ·have Zhf:Hid (j=0\/¬ys[j-1]?=F x):=.inr (by rw[show j-1=k by omega,HP1.out];exact λh=>hpx (VV h))
       clear hk hj0 Qi e';have ZgQ:=Zk1 hpx;clear hpx HP1;obtain⟨pt,pa,pk,pp,pl,pd⟩:=p;simp only at ZgQ ta
       rcases ZgQ with h|⟨rfl,h⟩ |⟨rfl,rfl,h⟩ |⟨rfl,rfl,rfl,h⟩ |⟨rfl,rfl,rfl,rfl,h⟩ |⟨rfl,rfl,rfl,rfl,rfl,h⟩
       all_goals
        (clear ZjX
         go_wp2_with fail
         (
          have f0:(wr.alloc (.cells #[I x.aR,I x.aQ,I x.kind,.string x.place,I x.aN.bq,I x.aN.day] 89)).cell? ⟨wr.heap.size,0,V⟩=F (I x.aR):=by simp
          have f1:(wr.alloc (.cells #[I x.aR,I x.aQ,I x.kind,.string x.place,I x.aN.bq,I x.aN.day] 89)).cell? ⟨wr.heap.size,1,V⟩=F (I x.aQ):=by simp
          have f2:(wr.alloc (.cells #[I x.aR,I x.aQ,I x.kind,.string x.place,I x.aN.bq,I x.aN.day] 89)).cell? ⟨wr.heap.size,2,V⟩=F (I x.kind):=by simp
          have f3:(wr.alloc (.cells #[I x.aR,I x.aQ,I x.kind,.string x.place,I x.aN.bq,I x.aN.day] 89)).cell? ⟨wr.heap.size,3,V⟩=F (.string x.place):=by simp
          have f4:(wr.alloc (.cells #[I x.aR,I x.aQ,I x.kind,.string x.place,I x.aN.bq,I x.aN.day] 89)).cell? ⟨wr.heap.size,4,V⟩=F (I x.aN.bq):=by simp
          have f5:(wr.alloc (.cells #[I x.aR,I x.aQ,I x.kind,.string x.place,I x.aN.bq,I x.aN.day] 89)).cell? ⟨wr.heap.size,5,V⟩=F (I x.aN.day):=by simp
          have fu:Up wr (wr.alloc (.cells #[I x.aR,I x.aQ,I x.kind,.string x.place,I x.aN.bq,I x.aN.day] 89)):=Up.al _ (Up.rfl' wr);have fx:(wr.alloc (.cells #[I x.aR,I x.aQ,I x.kind,.string x.place,I x.aN.bq,I x.aN.day] 89)).cell? ⟨w.heap.size+2,0,V⟩=F (.slice (F ⟨b,off,V⟩) N c3):=gD hcx hzr fu;have g0:(wr.alloc (.cells #[I x.aR,I x.aQ,I x.kind,.string x.place,I x.aN.bq,I x.aN.day] 89)).cell? ⟨b,off+k*6,V⟩=F _:=gD (ta 0 _ rfl) Pw fu;have g1:(wr.alloc (.cells #[I x.aR,I x.aQ,I x.kind,.string x.place,I x.aN.bq,I x.aN.day] 89)).cell? ⟨b,off+k*6+1,V⟩=F _:=gD (ta 1 _ rfl) Pw fu;have g2:(wr.alloc (.cells #[I x.aR,I x.aQ,I x.kind,.string x.place,I x.aN.bq,I x.aN.day] 89)).cell? ⟨b,off+k*6+2,V⟩=F _:=gD (ta 2 _ rfl) Pw fu;have g3:(wr.alloc (.cells #[I x.aR,I x.aQ,I x.kind,.string x.place,I x.aN.bq,I x.aN.day] 89)).cell? ⟨b,off+k*6+3,V⟩=F _:=gD (ta 3 _ rfl) Pw fu;have g4:(wr.alloc (.cells #[I x.aR,I x.aQ,I x.kind,.string x.place,I x.aN.bq,I x.aN.day] 89)).cell? ⟨b,off+k*6+4,V⟩=F _:=gD (ta 4 _ rfl) Pw fu;have g5:(wr.alloc (.cells #[I x.aR,I x.aQ,I x.kind,.string x.place,I x.aN.bq,I x.aN.day] 89)).cell? ⟨b,off+k*6+5,V⟩=F _:=gD (ta 5 _ rfl) Pw fu;clear ta;generalize (wr.alloc (.cells #[I x.aR,I x.aQ,I x.kind,.string x.place,I x.aN.bq,I x.aN.day] 89))=w5 at f0 f1 f2 f3 f4 f5 fu fx g0 g1 g2 g3 g4 g5⊢
          (have Ef0:=uM.cell f0;have Ef1:=uM.cell f1;have Ef2:=uM.cell f2;have Ef3:=uM.cell f3;have Ef4:=uM.cell f4;have Ef5:=uM.cell f5;have Efx:=uM.cell fx;have Eg0:=uM.cell g0;have Eg1:=uM.cell g1;have Eg2:=uM.cell g2;have Eg3:=uM.cell g3;have Eg4:=uM.cell g4;have Eg5:=uM.cell g5;refine xS YC YC ?_;(repeat(go_big_quiet_step (fail)));refine wpQuiet_nil ?_;intro LC vI;clear Ef0 Ef1 Ef2 Ef3 Ef4 Ef5 Efx Eg0 Eg1 Eg2 Eg3 Eg4 Eg5;replace f0:=gl f0 vI;replace f1:=gl f1 vI;replace f2:=gl f2 vI;replace f3:=gl f3 vI;replace f4:=gl f4 vI;replace f5:=gl f5 vI;replace fx:=gl fx vI;replace g0:=gl g0 vI;replace g1:=gl g1 vI;replace g2:=gl g2 vI;replace g3:=gl g3 vI;replace g4:=gl g4 vI;replace g5:=gl g5 vI)
          refine Hid.out ?_)
         have zM:Up w4 LC:=Up.step vI (Up.step fu TD.out);have Sp:=HV2.out.up (Up.step vI fu);have hs5:w.heap.size+2<LC.heap.size:=Wn hzr (Wd fu.size vI.size);have hs6:w4.heap.size<=LC.heap.size:=zM.size;have Gj:Rd (LC.alloc (.cells #[I x.aR,I x.aQ,I x.kind,.string x.place,I x.aN.bq,I x.aN.day] 89)) (LC.heap.size+1) (F ⟨LC.heap.size,0,V⟩) [x]:=Rd.one LC 89 x (LC.heap.size+1) Y;have HW5:=Lib.hid zM;have HV5:=Lib.hid Sp;have HR1:=Lib.hid Gj;clear zM Sp Gj vI fu;refine Lib.hid ?_
         go_wp2_with (at_builtin;refine gb Zbj rfl (.tmp 53) (.tmp 55) rfl (base:=w4.heap.size) (ys:=R6 ys j) (xs:=[x]) YT (HV5.out.up YB) 1 YT rfl HR1.out Y2 YX YL ?_;intro v' w6 ho6 hg6 _ Sn;refine Hid.out ?_)
         have Nq:Up w4 w6:=Sn _ YE (Up.al _ HW5.out);have HO6:=Lib.hid ho6;have HW6:=Lib.hid Nq;clear ho6 hg6 Sn Nq;refine Lib.hid ?_
         go_wp2
         refine⟨⟨j+1,by go_num,Y,?_,HW6.out⟩,by simp[intOf];omega⟩
         rw[HDD.out,if_pos Zhf.out];exact HO6.out)
    ·have hje:j=N:=Y
     subst hje;have Zj9:¬(j:C)<(j:C):=Y;have ZmH:=HYL.out
     go_wp2
     go_ret
     refine⟨_,rfl,ys,HP.out,HS.out,?_,Up.step TD.out (Up.step HUP.out (Up.al _ (Up.rfl' w)))⟩;rw[ZmH];exact HV2.out.more (by have:=HUP.out.size;simp at this;omega)
end
def Qt(x:aI):D aI->D aI
 | []=>[x]
 |y::ys=>if LY x y=Ze then x::y::ys else y::Qt x ys
def qb:D aI->D aI
 | []=>[]
 |x::xs=>Qt x (qb xs)
abbrev leS(a b:aI):Prop:=LY b a=Z
def Db(x:aI):∀l:D aI,(Qt x l).Perm (x::l)
 | []=>.refl _
 |y::ys=>by
  unfold Qt
  split
  ·exact .refl _
  ·exact((Db x ys).cons y).trans (.swap x y ys)
def xI:∀l:D aI,(qb l).Perm l
 | []=>.refl _
 |x::xs=>(Db x (qb xs)).trans ((xI xs).cons x)
def Hh{a b:aI}(h:LY a b=Ze):LY b a=false:=Go.Sort.SWO.asymmA Hy h
def Nx(x:aI):∀l:D aI,l.Pairwise leS->(Qt x l).Pairwise leS
 | [],_=>by simp[Qt]
 |y::ys,h=>by
  obtain⟨h1,h2⟩:=Wx.1 h;unfold Qt
  by_cases hc:LY x y=Ze
  ·rw[if_pos hc]
   refine Wx.2 ⟨λz hz=>?_,h⟩
   rcases VY.1 hz with rfl|hz
   ·exact Hh hc
   ·exact Hy.ntrans _ _ _ (h1 z hz) (Hh hc)
  ·rw[if_neg hc]
   refine Wx.2 ⟨λz hz=>?_,Nx x ys h2⟩
   rcases VY.1 ((Db x ys).mem_iff.1 hz)with rfl|hz
   ·simpa using hc
   ·exact h1 z hz
def DE:∀l:D aI,(qb l).Pairwise leS
 | []=>.nil
 |x::xs=>Nx x _ (DE xs)
def Zgf{a b:aI}(h1:LY a b=Z)(h2:LY b a=Z):a=b:=by
 have g1:=(AS _ _).1 h1;have g2:=(AS _ _).1 h2;have e1:qS a.place b.place=- qS b.place a.place:=Bo _ _;unfold rh at g1 g2
 have hz:qS a.place b.place=0:=Y;have hp:a.place=b.place:=by
  have:=EP hz;obtain⟨_,_,_,⟨⟨p⟩⟩,_⟩:=a;obtain⟨_,_,_,⟨⟨q⟩⟩,_⟩:=b;simp only at this⊢
  rw[this]
 obtain⟨x1,x2,x3,x4,⟨x5,x6⟩⟩:=a;obtain⟨y1,y2,y3,y4,⟨y5,y6⟩⟩:=b;simp only at g1 g2 hp hz e1
 subst hp;obtain⟨rfl,rfl,rfl,rfl,rfl⟩:x1=y1/\x2=y2/\x3=y3/\x5=y5/\x6=y6:=Y;rfl
def Jy{d e:D aI}(hp:d.Perm e)(hd:d.Pairwise leS)(he:e.Pairwise leS):d=e:=
 List.Perm.eq_of_pairwise (le:=leS) (λa b _ _ h1 h2=>Zgf h2 h1) hd he hp
def lB(n:ab)(l:D aI):J (D aI):=
 if Zey n=Ze/\(K l)<=1048576 then F (R6 (qb (uo n l)) (K (qb (uo n l))))else V
def ZlG{vs:Array Value}{x0 x1:Value}(h:vs.size=2)(h0:vs[0]?=F x0)(h1:vs[1]?=F x1):vs=#[x0,x1]:=by
 apply Array.ext (by simp[h])
 intro i hi hj;have a0:=(V6.1 h0).2;have a1:=(V6.1 h1).2
 match i,hi with
 |0,_=>simpa using a0
 |1,_=>simpa using a1
 |i+2,hi=>omega
def B8(n:ab)(l:D aI){r:D aI}(H:lB n l=F r):eh prog 222 [.ag (aT n),.sl (l.map bA)] [] (.ms 0) [F ⟨.of 89,6,r.map bA⟩]:=by
 unfold lB at H
 split at H
 case isFalse=>cases H
 rename_i hok;obtain⟨hf,hln⟩:=hok;have hf:=yu.1 hf;obtain rfl:=VV H;intro S β w vs ω hk hl ha;obtain⟨x0,q0,r0⟩:=ha 0 _ rfl;obtain⟨x1,q1,r1⟩:=ha 1 _ rfl;obtain rfl:=ZlG hl q0 q1;obtain⟨us,rfl,hul,vJ,hur⟩:=r0.si;have ZbR:us.size=3:=hul;have z0:us[0]?=F us[0]:=V4 Y;have z1:us[1]?=F us[1]:=V4 Y;have z2:us[2]?=F us[2]:=V4 Y;have hus:us=#[us[0],us[1],us[2]]:=ZgJ ZbR z0 z1 z2;have w0:=(hur 0 (.sl (n.aC.map cY)) _ rfl z0).uk;have w1:=(hur 1 (.sl (n.off.map aW)) _ rfl z1).uk;have w2:=DB (hur 2 (X n.change) _ rfl z2);have w4:=r1.uk;have up:∀{p:PV} {x:Value},eO w S p x->eO w (SW w) p x:=λh=>h.ext (λb hb=>hk.sz b hb) λ_ _ _=>rfl
 obtain⟨A,wn,rfl,hwn,hwm,IN⟩:=K9 (id:aI->aI) (c:=bA) hk.sz w4;rw[List.map_id]at IN
 rw[hus,w2];refine(Zgh hf hk.JC (up w0) (up w1) hln hwn IN).mono ?_;rintro e w' ⟨v,ys,rfl,hp,hs,ho,hu⟩;obtain rfl:=Jy (hp.trans (xI _).symm) hs (DE _);obtain⟨E',h1,h2,h3,h4,h5⟩:=uU (c:=bA) hk ho hu (λx=>⟨rfl,λj p hj=>by
  obtain⟨u,vJ,Ab⟩:=we.aQ (c:=bA) (g:=(id:aI->aI)) x j p hj;exact⟨u,vJ,eZ.one _ u (VU vJ),λw E=>by rw[Ab];exact tZ _ (eZ.one _ u (VU vJ))⟩⟩)
 exact⟨_,E',rfl,h1,h2,h3,h4,h5⟩
instance (n:ab)(l:D aI):CT prog (lB n l):=⟨222,[.ag (aT n),.sl (l.map bA)],[],λr=>.ms 0,λr=>[F ⟨.of 89,6,r.map bA⟩],B8 n l⟩
end Go.Proofs.YtbjbellffaenaaaGreatDoor
namespace Go.Proofs.YtbjbellffaenaaaGreatDoor
open Go.RowKit
def kC(aR:C)(y1:D aI)(s0:C×(D aI)):J ((C×(D aI))⊕(D aI)):=
 G (Zg (s0.1<(K y1:C)))
 (R (az y1 s0.1) λy2=>
 G (Zg (y2.aR=aR))
 (R (cf (bn (K (s0.2:D aI)+K ([y2]:D aI)) 56)) λ_=>
 F (.inl ((aJ (s0.1+1)),((s0.2:D aI)++[y2]))))
 (F (.inl ((aJ (s0.1+1)),s0.2))))
 (F (.inr s0.2))
instance (aR:C)(y1:D aI):bm (kC aR y1):=⟨λs0=>(.un::.un::X aR::(U 4 (.ms 0::(U 5 (.ms 1::X (K y1:C)::X s0.1::(U 13 [])))))),λs0=>[F ⟨.of 89,6,s0.2.map bA⟩,F ⟨.of 89,6,y1.map bA⟩]⟩
def oG(n:ab)(l:D aI)(aR:C):J (D aI):=
 R (lB n l) λy1=>
 (aB (kC aR y1) NN (0,([]:D aI))).bind (λo0=>
 F o0)
instance (n:ab)(l:D aI)(aR:C):CT prog (oG n l aR):=⟨166,[.ag (aT n),.sl (l.map bA),X aR],[],λr=>.ms 0,λr=>[F ⟨.of 89,6,r.map bA⟩],cw (oG.eq_1 ..) func166 ntmps166 results166⟩
def vW(n:ab)(y1:(D aI))(s0:C×(D C)):J ((C×(D C))⊕(D C)):=
 G (Zg (s0.1<(K y1:C)))
 (R (az y1 (aJ (s0.1-1))) λy2=>
 R (az y1 s0.1) λy3=>
 R (dT n y2 y3) λy4=>
 G (!y4)
 (R (cf (bn (K (s0.2:D C)+K ([s0.1]:D C)) 8)) λ_=>
 F (.inl ((aJ (s0.1+1)),((s0.2:D C)++[s0.1]))))
 (F (.inl ((aJ (s0.1+1)),s0.2))))
 (F (.inr s0.2))
instance (n:ab)(y1:(D aI)):bm (vW n y1):=⟨λs0=>(U 3 (.be 0 0 0::(U 3 (.ms 1::.ms 2::X s0.1::(U 28 []))))),λs0=>[F ⟨.of 27,3,[aT n]⟩,F ⟨.of 3,1,s0.2.map aW⟩,F ⟨.of 89,6,y1.map bA⟩]⟩
def GA(n:ab)(l:D aI)(aR:C):J (D C):=
 R (oG n l aR) λy1=>
 (aB (vW n y1) NN (1,([]:D C))).bind (λo0=>
 F o0)
def kz(n:ab)(y1:(D aI))(s0:C×(D aI)):J ((C×(D aI))⊕(D aI)):=
 G (Zg (s0.1<(K y1:C)))
 (R (az y1 s0.1) λy2=>
 G (Zg ((K s0.2:C)=0))
 (R (cf (bn (K (s0.2:D aI)+K ([y2]:D aI)) 56)) λ_=>
 F (.inl ((aJ (s0.1+1)),((s0.2:D aI)++[y2]))))
 (R (az s0.2 (aJ ((K s0.2:C)-1))) λy3=>
 R (dT n y3 y2) λy4=>
 G y4
 (R (cf (bn (K (s0.2:D aI)+K ([y2]:D aI)) 56)) λ_=>
 F (.inl ((aJ (s0.1+1)),((s0.2:D aI)++[y2]))))
 (F (.inl ((aJ (s0.1+1)),s0.2)))))
 (F (.inr s0.2))
instance (n:ab)(y1:(D aI)):bm (kz n y1):=⟨λs0=>(U 3 (.be 0 0 0::(U 3 (.ms 1::(U 6 (.ms 2::X (K y1:C)::X s0.1::(U 23 []))))))),λs0=>[F ⟨.of 27,3,[aT n]⟩,F ⟨.of 89,6,s0.2.map bA⟩,F ⟨.of 89,6,y1.map bA⟩]⟩
def oD(n:ab)(l:D aI)(aR:C):J (D aI):=
 R (oG n l aR) λy1=>
 (aB (kz n y1) NN (0,([]:D aI))).bind (λo0=>
 F o0)
instance (n:ab)(l:D aI)(aR:C):CT prog (oD n l aR):=⟨101,[.ag (aT n),.sl (l.map bA),X aR],[],λr=>.ms 0,λr=>[F ⟨.of 89,6,r.map bA⟩],cw (oD.eq_1 ..) func101 ntmps101 results101⟩
def R7{ys:D aI}(hn:ys.Nodup):∀k,k<=K ys->R6 ys k=ys.take k
 |0,_=>rfl
 |k+1,hk=>by
  have bD:k<K ys:=Y;rw[R8 ys k bD,R7 hn k Y,if_pos ?_,Wt bD]
  by_cases h0:k=0
  ·omega
  ·refine .inr λe=>?_
   have h1:k-1<K ys:=Y;rw[VS h1]at e
   exact List.pairwise_iff_getElem.1 hn (k-1) k h1 bD Y (VV e)
structure Ao(n:ab)(l:D aI):Prop where
 len:l.length<=200
 ok:∀s∈l,oU n s=Ze
 nodup:l.Nodup
def OX{n:ab}(hf:cD n){l:D aI}(h:Ao n l):lB n l=F (qb l):=by
 have hv:uo n l=l:=by
  unfold uo;rw[Xh h.len,List.filter_eq_self];exact h.ok
 have hp:=xI l;unfold lB;rw[if_pos ⟨yu.2 hf,by have:=h.len;omega⟩,hv,R7 (hp.symm.nodup h.nodup) _ (VW _),XF]
def td(th:C)(l:D aI):D aI:=l.filter λs=>Zg (s.aR=th)
def Zih{a b:aI}(h:rh a b):leS a b:=Hh ((AR _ _).2 h)
def VF{n:ab}(hf:cD n){l:D aI}(h:Ao n l){th:C}(hs:(td th l).Pairwise rh):oG n l th=F (td th l):=by
 have hp:=xI l;have hlen:K (qb l)<=200:=by rw[hp.length_eq];exact h.len
 have heq:td th (qb l)=td th l:=Jy (hp.filter _) (List.Pairwise.sublist List.filter_sublist (DE l)) (hs.imp λh=>Zih h)
 have e:aB (kC th (qb l)) NN (0,[])=F (td th (qb l)):=by
  refine il (body:=kC th (qb l)) (λi:M=>((i:C),td th ((qb l).take i))) (n:=K (qb l)) (o:=td th (qb l)) (λi hi=>?_) ?_ NN YF
  ·have hg:az (qb l) (i:C)=F (qb l)[i]:=by rw[aS];simp
   have hw:aJ ((i:C)+1)=((i+1:M):C):=bz hi Y;have LO:K (td th ((qb l).take i))<=200:=Wd (WV _ _) YD;have ha:cf (bn (K (td th ((qb l).take i))+K ([(qb l)[i]]:D aI)) 56)=F ():=fv YD Y;unfold kC;simp only[Yi (show(i:C)<K (qb l) by omega),Yw,hg,VR,hw,ha]
   have hs:td th ((qb l).take (i+1))=td th ((qb l).take i)++(if(qb l)[i].aR=th then [(qb l)[i]]else []):=by
    unfold td;rw[Wt hi,List.filter_append]
    grind
   grind
  ·unfold kC
   simp
 unfold oG;rw[OX hf h,VR,e,heq];rfl
def A7(n:ab)(T:D aI):Prop:=∀(i:M) (a b:aI),T[i]?=F a->T[i+1]?=F b->dT n a b=F Ze
def CP{n:ab}(hf:cD n){l:D aI}(h:Ao n l){th:C}(hs:(td th l).Pairwise rh)(hF:A7 n (td th l)):oD n l th=F (td th l):=by
 have LO:K (td th l)<=200:=Wd (WV _ _) h.len;generalize hT:td th l=T at hs hF LO
 have e:aB (kz n T) NN (0,[])=F T:=by
  refine il (body:=kz n T) (λi:M=>((i:C),T.take i)) (n:=K T) (o:=T) (λi hi=>?_) ?_ NN YF
  ·have hg:az T (i:C)=F T[i]:=by rw[aS];simp
   have hw:aJ ((i:C)+1)=((i+1:M):C):=bz hi Y;have htl:K (T.take i)=i:=by grind
   have ha:cf (bn (K (T.take i)+K ([T[i]]:D aI)) 56)=F ():=fv YD Y;rw[htl]at ha
   unfold kz;simp only[Yi (show(i:C)<K T by omega),Yw,hg,VR,hw,htl]
   rw[Wt hi]
   by_cases h0:i=0
   ·simp_all
   ·rw[Yt (show ¬(i:C)=0 by omega),Yx]
    have w1:aJ ((i:C)-1)=((i-1:M):C):=by rw[aV Y];omega
    have h1:i-1<K T:=Y;have g1:az (T.take i) ((i-1:M):C)=F T[i-1]:=by rw[aS,List.getElem?_take_of_lt Y];simp
    have hc:=hF (i-1) T[i-1] T[i] (VS h1) YD
    simp_all
  ·unfold kz
   simp
 unfold oD;rw[VF hf h YG,hT,VR,e];rfl
def vt(th:C)(l l':D aI):td th (l++l')=td th l++td th l':=by unfold td;simp
def yJ{th:C}{l:D aI}(h:∀s∈l,¬s.aR=th):td th l=[]:=by
 unfold td
 simp_all
def Zfn{th:C}{l:D aI}(h:∀s∈l,s.aR=th):td th l=l:=by
 unfold td
 simp_all
def yK{f:M->ay->D aI}(hf:∀j o,∀s∈f j o,s.aR=((j+1:M):C)):∀(os:D ay) (b i:M) (o:ay),os[i]?=F o->td ((b+i+1:M):C) (ot f b os)=f (b+i) o
 | [],b,i,o,h=>by grind
 |x::os,b,0,o,h=>by
  obtain rfl:x=o:=by simp_all
  unfold ot;rw[vt,Zfn (λs hs=>hf b x s hs),yJ (l:=ot f (b+1) os) (λs hs=>?_),Xc]
  ·rfl
  ·obtain⟨j,o',_,h2⟩:=sC hs
   grind
 |x::os,b,i+1,o,h=>by
  have h':os[i]?=F o:=by simp_all
  unfold ot;rw[vt,yJ (l:=f b x) (λs hs=>by grind),List.nil_append]
  have:=yK hf os (b+1) i o h'
  grind
def DX{n:ab}{a:C}:∀(j:M) (o:ay),∀s∈gX n a j o,s.aR=((j+1:M):C):=λj o s hs=>by
 unfold gX at hs
 grind
def Eg{n:ab}{a:C}:∀(j:M) (o:ay),∀s∈pq n a j o,s.aR=((j+1:M):C):=λj o s hs=>by
 unfold pq at hs
 grind
structure Zhh(w:aw):Prop where
 skip:w.skip=[]
 br:w.br=(w.aL.length:C)
 own:∀(i:M) (o:ay),w.ae[i]?=F o->td ((i+1:M):C) w.aL=my w.aa i o
def Zk9(f:M->ay->M):M->D ay->M
 |_,[]=>0
 |i,o::os=>f i o+Zk9 f (i+1) os
structure Zjk(w:aw):Prop where
 seen:Zhh w
 len:w.aL.length=Zk9 (λj o=>(my w.aa j o).length) 0 w.ae
 few:w.ae.length<=4
 aE:∀o∈w.ae,o.aE.length<=20
 aR:∀s∈w.aL,s.aR<=(w.ae.length:C)
def jZ(cQ:C)(y1:(D aI))(s0:C):J (C⊕(Unit⊕(aI×Bool))):=
 G (Zg (0<=s0))
 (R (az y1 s0) λy2=>
 G (Zg (y2.aQ<=cQ))
 (R (az y1 s0) λy3=>
 F (.inr (.inr (y3,Ze))))
 (F (.inl (aJ (s0-1)))))
 (F (.inr (.inl ())))
instance (cQ:C)(y1:(D aI)):bm (jZ cQ y1):=⟨λs0=>(U 3 (X cQ::(U 4 (.be 0 0 0::.un::.ms 1::X s0::(U 23 []))))),λs0=>[F ⟨.of 89,6,[[X 0,X 0,X 0,vs (⟨#[]⟩),X 0,X 0]]⟩,F ⟨.of 89,6,y1.map bA⟩]⟩
def gJ(n:ab)(l:D aI)(aR:C)(cQ:C):J (aI×Bool):=
 R (oD n l aR) λy1=>
 (aB (jZ cQ y1) NN (aJ ((K y1:C)-1))).bind (bj (λo0=>
 F ((⟨0,0,0,⟨#[]⟩,(⟨0,0⟩:au)⟩:aI),Z)) (λr=>F r))
instance (n:ab)(l:D aI)(aR:C)(cQ:C):CT prog (gJ n l aR cQ):=⟨40,[.ag (aT n),.sl (l.map bA),X aR,X cQ],[],λr=>.tu [.ag [X r.1.aR,X r.1.aQ,X r.1.kind,vs r.1.place,X r.1.aN.bq,X r.1.aN.day],vb r.2],λr=>[],cw (gJ.eq_1 ..) func40 ntmps40 results40⟩
def j2(cQ:C)(y1:(D aI))(s0:C):J (C⊕(Unit⊕(aI×Bool))):=
 G (Zg (s0<(K y1:C)))
 (R (az y1 s0) λy2=>
 G (Zg (cQ<y2.aQ))
 (F (.inr (.inr (y2,Ze))))
 (F (.inl (aJ (s0+1)))))
 (F (.inr (.inl ())))
instance (cQ:C)(y1:(D aI)):bm (j2 cQ y1):=⟨λs0=>(U 3 (X cQ::(U 4 (.be 0 0 0::(U 6 (.ms 1::X (K y1:C)::X s0::(U 10 []))))))),λs0=>[F ⟨.of 89,6,[[X 0,X 0,X 0,vs (⟨#[]⟩),X 0,X 0]]⟩,F ⟨.of 89,6,y1.map bA⟩]⟩
def pM(n:ab)(l:D aI)(aR:C)(cQ:C):J (aI×Bool):=
 R (oD n l aR) λy1=>
 (aB (j2 cQ y1) NN 0).bind (bj (λo0=>
 F ((⟨0,0,0,⟨#[]⟩,(⟨0,0⟩:au)⟩:aI),Z)) (λr=>F r))
instance (n:ab)(l:D aI)(aR:C)(cQ:C):CT prog (pM n l aR cQ):=⟨169,[.ag (aT n),.sl (l.map bA),X aR,X cQ],[],λr=>.tu [.ag [X r.1.aR,X r.1.aQ,X r.1.kind,vs r.1.place,X r.1.aN.bq,X r.1.aN.day],vb r.2],λr=>[],cw (pM.eq_1 ..) func169 ntmps169 results169⟩
section
variable {n:ab} (hf:cD n) {l:D aI} (h:Ao n l) {th:C} (hs:(td th l).Pairwise rh) (hF:A7 n (td th l)) {aQ:C} (uu:∀s∈td th l,s.aQ<=aQ)
include hf h hs hF uu
theorem Kt{s:aI}(hl:(td th l).getLast?=F s):gJ n l th aQ=F (s,Ze):=by
 have LO:K (td th l)<=200:=Wd (WV _ _) h.len;have hc:=CP hf h hs hF;generalize td th l=T at *
 rw[List.getLast?_eq_getElem?]at hl
 have bD:=(VT.1 hl).1;have hw:aJ ((K T:C)-1)=((K T-1:M):C):=by rw[aV Y];omega
 have hg:az T ((K T-1:M):C)=F s:=by rw[aS];omega
 have hb:jZ aQ T ((K T-1:M):C)=F (.inr (.inr (s,Ze))):=by
  unfold jZ
  grind
 have e:aB (jZ aQ T) NN ((K T-1:M):C)=F (.inr (s,Ze)):=by
  obtain⟨N,hN⟩:∃N,NN=N+1:=⟨NN-1,by rfl⟩
  rw[hN];unfold aB
  simp_all
 unfold gJ
 simp_all
theorem Di:pM n l th aQ=F ((⟨0,0,0,⟨#[]⟩,(⟨0,0⟩:au)⟩:aI),Z):=by
 have LO:K (td th l)<=200:=Wd (WV _ _) h.len;have hc:=CP hf h hs hF;generalize td th l=T at *
 have e:aB (j2 aQ T) NN 0=F (.inl ()):=by
  refine il (body:=j2 aQ T) (λi:M=>(i:C)) (n:=K T) (o:=.inl ()) (λi hi=>?_) ?_ NN YF
  ·have hg:az T (i:C)=F T[i]:=by rw[aS];simp
   unfold j2;simp only[Yi (show(i:C)<K T by omega),Yw,hg,VR,Yt (show ¬aQ<T[i].aQ by simp_all),Yx,bz hi Y]
  ·unfold j2
   simp
 unfold pM
 simp_all
end
def qc{n:ab}(hf:cD n)(s:aI):gI n s=F (oU n s):=by
 rw[Dc hf];obtain⟨b,hb⟩:=vS hf s;unfold oU
 simp_all
section
variable {n:ab} (hf:cD n) {a b:aI} (ha:oU n a=Ze) (hb:oU n b=Ze) (ht:a.aR=b.aR) (bD:rh a b) (h4:¬a.kind=4)
include hf ha hb ht bD h4
theorem D0{p q:lp}(hp:bF n a=F p)(hq:bC n b=F q)(uP:p.place=q.place)(uu:p.aQ<=q.aQ):dT n a b=F true:=by
 obtain⟨v,hv,hvl⟩:=xt a b;have hv0:v<0:=hvl.2 bD;have har:fp n p q=F true:=by
  unfold fp
  simp_all
 unfold dT;simp only[qc hf,ha,hb,VR,VX,Yx,Yi ht,hv,Yt (show ¬0<=v by omega),Yt h4,hp,hq,har]
 simp
theorem D1(h3:a.kind=3)(h2:b.kind=2)(Ey:a.aN=b.aN):dT n a b=F true:=by
 obtain⟨v,hv,hvl⟩:=xt a b;have hv0:v<0:=hvl.2 bD;unfold dT;simp only[qc hf,ha,hb,VR,VX,Yx,Yi ht,hv,Yt (show ¬0<=v by omega),Yt h4,Yi h3,Yi h2,Yi Ey,Yw]
end
section
variable {n:ab} (hf:cD n) {s:aI} (hs:oU n s=Ze)
include hf hs
theorem Mj{y:bP}(h3:s.kind=3)(hy:az n.aC s.aN.bq=F y){e:C}(he:bo n s.aN=F e):bF n s=F ⟨y.aZ,e⟩:=by
 unfold bF;simp only[qc hf,hs,VR,VX,Yx,Yi h3,Yw,hy,qm,he]
theorem DP{y:bP}(h2:s.kind=2)(hy:az n.aC s.aN.bq=F y):bF n s=F ⟨y.aZ,s.aQ⟩:=by
 unfold bF qE;simp only[qc hf,hs,VR,VX,Yx,Yt (show ¬s.kind=3 by omega),Yi h2,Yw,hy]
theorem DQ(h2:¬s.kind=2)(h3:¬s.kind=3):bF n s=F ⟨s.place,s.aQ⟩:=by
 unfold bF qE;simp only[qc hf,hs,VR,VX,Yx,Yt h3,Yt h2]
theorem DO{y:bP}(h3:s.kind=3)(hy:az n.aC s.aN.bq=F y){e:C}(he:bp n s.aN=F e):bC n s=F ⟨y.ar,e⟩:=by
 unfold bC;simp only[qc hf,hs,VR,VX,Yx,Yi h3,Yw,hy,lI,he]
theorem yl(h2:¬s.kind=2)(h3:¬s.kind=3):bC n s=F ⟨s.place,s.aQ⟩:=by
 unfold bC;simp only[qc hf,hs,VR,VX,Yx,Yt h3,Yt h2]
end
def fU(n:ab)(l:D aI)(aR:C)(cQ:C):J eM:=
 R (gJ n l aR cQ) λy1=>
 R (pM n l aR cQ) λy2=>
 G (!y1.2)
 (F (⟨n,cQ,Z,⟨#[]⟩,(⟨0,0⟩:au),Z,Z,(⟨⟨#[]⟩,0⟩:lp),(⟨⟨#[]⟩,0⟩:lp),Z⟩:eM))
 (G (Zg (y1.1.kind=4))
 (F (⟨n,cQ,Z,⟨#[]⟩,(⟨0,0⟩:au),Z,Z,(⟨⟨#[]⟩,0⟩:lp),(⟨⟨#[]⟩,0⟩:lp),Z⟩:eM))
 (G y2.2
 (G (Zg (y2.1.kind=2))
 (R (ca n y2.1.aN) λy3=>
 G (Zg (y3<=cQ))
 (R (cE n y2.1.aN) λy4=>
 R (az n.aC y2.1.aN.bq) λy5=>
 F (⟨n,cQ,Ze,y5.aZ,y2.1.aN,(Zg (cQ<y4)),Z,(⟨⟨#[]⟩,0⟩:lp),(⟨⟨#[]⟩,0⟩:lp),Z⟩:eM))
 (G (Zg (y1.1.kind=3))
 (R (cE n y1.1.aN) λy6=>
 G (Zg (cQ<y6))
 (R (ca n y1.1.aN) λy7=>
 R (az n.aC y1.1.aN.bq) λy8=>
 F (⟨n,cQ,Ze,y8.ar,y1.1.aN,(Zg (y7<=cQ)),Z,(⟨⟨#[]⟩,0⟩:lp),(⟨⟨#[]⟩,0⟩:lp),Z⟩:eM))
 (R (bF n y1.1) λy9=>
 R (bC n y2.1) λdO=>
 F (⟨n,cQ,Z,⟨#[]⟩,(⟨0,0⟩:au),Z,Ze,y9,dO,y2.2⟩:eM)))
 (R (bF n y1.1) λlJ=>
 R (bC n y2.1) λlA=>
 F (⟨n,cQ,Z,⟨#[]⟩,(⟨0,0⟩:au),Z,Ze,lJ,lA,y2.2⟩:eM))))
 (G (Zg (y1.1.kind=3))
 (R (cE n y1.1.aN) λqi=>
 G (Zg (cQ<qi))
 (R (ca n y1.1.aN) λoY=>
 R (az n.aC y1.1.aN.bq) λrT=>
 F (⟨n,cQ,Ze,rT.ar,y1.1.aN,(Zg (oY<=cQ)),Z,(⟨⟨#[]⟩,0⟩:lp),(⟨⟨#[]⟩,0⟩:lp),Z⟩:eM))
 (R (bF n y1.1) λpI=>
 R (bC n y2.1) λtE=>
 F (⟨n,cQ,Z,⟨#[]⟩,(⟨0,0⟩:au),Z,Ze,pI,tE,y2.2⟩:eM)))
 (R (bF n y1.1) λxT=>
 R (bC n y2.1) λzf=>
 F (⟨n,cQ,Z,⟨#[]⟩,(⟨0,0⟩:au),Z,Ze,xT,zf,y2.2⟩:eM))))
 (G (Zg (y1.1.kind=3))
 (R (cE n y1.1.aN) λFh=>
 G (Zg (cQ<Fh))
 (R (ca n y1.1.aN) λIp=>
 R (az n.aC y1.1.aN.bq) λCw=>
 F (⟨n,cQ,Ze,Cw.ar,y1.1.aN,(Zg (Ip<=cQ)),Z,(⟨⟨#[]⟩,0⟩:lp),(⟨⟨#[]⟩,0⟩:lp),Z⟩:eM))
 (R (bF n y1.1) λIq=>
 R (bC n y2.1) λy24=>
 F (⟨n,cQ,Z,⟨#[]⟩,(⟨0,0⟩:au),Z,Ze,Iq,y24,y2.2⟩:eM)))
 (R (bF n y1.1) λy25=>
 R (bC n y2.1) λy26=>
 F (⟨n,cQ,Z,⟨#[]⟩,(⟨0,0⟩:au),Z,Ze,y25,y26,y2.2⟩:eM)))))
instance (n:ab)(l:D aI)(aR:C)(cQ:C):CT prog (fU n l aR cQ):=⟨104,[.ag (aT n),.sl (l.map bA),X aR,X cQ],[],λr=>.ag [.sl (r.n.aC.map cY),.sl (r.n.off.map aW),X r.n.change,X r.aQ,vb r.known,vs r.place,X r.Vx.bq,X r.Vx.day,vb r.Af,vb r.free,vs r.ar.place,X r.ar.aQ,vs r.aZ.place,X r.aZ.aQ,vb r.more],λr=>[],cw (fU.eq_1 ..) func104 ntmps104 results104⟩
def oE(n:ab)(l:D aI)(aR:C)(cQ:C)(dw:L):J Bool:=
 R (dy n) λy1=>
 G y1
 (R (di n) λy2=>
 R (bQ y2 dw) λy3=>
 G (Zg (0<=y3))
 (R (fU n l aR cQ) λy4=>
 R (fX y4 dw) λy5=>
 F y5)
 (F Z))
 (F Z)
instance (n:ab)(l:D aI)(aR:C)(cQ:C)(dw:L):CT prog (oE n l aR cQ dw):=⟨41,[.ag (aT n),.sl (l.map bA),X aR,X cQ,vs dw],[],λr=>vb r,λr=>[],cw (oE.eq_1 ..) func41 ntmps41 results41⟩
def jg(n:ab)(l:D aI)(aR:C)(cQ:C)(t:au):J Bool:=
 R (db n t) λy1=>
 G y1
 (R (fU n l aR cQ) λy2=>
 R (dt y2 t) λy3=>
 F y3)
 (F Z)
instance (n:ab)(l:D aI)(aR:C)(cQ:C)(t:au):CT prog (jg n l aR cQ t):=⟨42,[.ag (aT n),.sl (l.map bA),X aR,X cQ,.ag (bg t)],[],λr=>vb r,λr=>[],cw (jg.eq_1 ..) func42 ntmps42 results42⟩
def zS:lp:=⟨⟨#[]⟩,0⟩
section
variable {n:ab} (hf:cD n) (hn:aX n=F Ze) {l:D aI} (h:Ao n l) {th:C} (hs:(td th l).Pairwise rh) (hF:A7 n (td th l)) {aQ:C} (uu:∀s∈td th l,s.aQ<=aQ) {s:aI} (hl:(td th l).getLast?=F s)
include hf hn h hs hF uu hl
theorem Qy{y:bP}(h3:s.kind=3)(hy:az n.aC s.aN.bq=F y){a e:C}(ha:bp n s.aN=F a)(he:bo n s.aN=F e)(h1:a<=aQ)(h2:aQ<e):fU n l th aQ=F ⟨n,aQ,Ze,y.ar,s.aN,Ze,Z,zS,zS,Z⟩:=by
 unfold fU;simp only[Kt hf h hs hF uu hl,Di hf h hs hF uu,VR,VX,Yx,Yt (show ¬s.kind=4 by omega),Yi h3,Yw,qm,he,Yi h2,lI,ha,hy,Yi h1]
 rfl
omit hn h hs hF uu hl in
theorem JP(hn:aX n=F Ze):bC n ⟨0,0,0,⟨#[]⟩,⟨0,0⟩⟩=F zS:=by
 have hz:oU n ⟨0,0,0,⟨#[]⟩,⟨0,0⟩⟩=false:=by
  unfold oU cz;rw[hn];rfl
 unfold bC;rw[qc hf,hz];rfl
theorem Qx(h3:¬s.kind=3)(h4:¬s.kind=4){p:lp}(hp:bF n s=F p):fU n l th aQ=F ⟨n,aQ,Z,⟨#[]⟩,⟨0,0⟩,Z,Ze,p,zS,Z⟩:=by
 unfold fU;simp only[Kt hf h hs hF uu hl,Di hf h hs hF uu,VR,VX,Yx,Yt h4,Yt h3,hp,JP hf hn]
end
def lO(n:ab)(y2:eM)(y3:D L)(s0:C×(D L)):J ((C×(D L))⊕(D L)):=
 G (Zg (s0.1<(K y3:C)))
 (R (az y3 s0.1) λy4=>
 R (fX y2 y4) λy5=>
 G y5
 (R (cf (bn (K (s0.2:D L)+K ([y4]:D L)) 16)) λ_=>
 F (.inl ((aJ (s0.1+1)),((s0.2:D L)++[y4]))))
 (F (.inl ((aJ (s0.1+1)),s0.2))))
 (F (.inr s0.2))
def lQ(n:ab)(y2:eM)(o0:(D L))(s1:C×(D au))(s2:C×(D au)):J ((C×(D au))⊕(D au)):=
 G (Zg (s2.1<(K n.aC:C)))
 (G (Zg ((K s2.2:C)<60))
 (R (nB n s2.1 s1.1) λy6=>
 G y6
 (R (dt y2 (⟨s2.1,s1.1⟩:au)) λy7=>
 G y7
 (R (cf (bn (K (s2.2:D au)+K ([(⟨s2.1,s1.1⟩:au)]:D au)) 16)) λ_=>
 F (.inl ((aJ (s2.1+1)),((s2.2:D au)++[(⟨s2.1,s1.1⟩:au)]))))
 (F (.inl ((aJ (s2.1+1)),s2.2))))
 (F (.inl ((aJ (s2.1+1)),s2.2))))
 (F (.inl ((aJ (s2.1+1)),s2.2))))
 (F (.inr s2.2))
def lP(n:ab)(y2:eM)(o0:(D L))(s1:C×(D au)):J ((C×(D au))⊕(D au)):=
 G (Zg (s1.1<=60))
 ((aB (lQ n y2 o0 s1) NN (0,s1.2)).bind (λo2=>
 F (.inl ((aJ (s1.1+1)),o2))))
 (F (.inr s1.2))
def pL(n:ab)(l:D aI)(aR:C)(cQ:C):J A9:=
 R (dy n) λy1=>
 G (!y1)
 (F (⟨[],[]⟩:A9))
 (R (fU n l aR cQ) λy2=>
 R (di n) λy3=>
 (aB (lO n y2 y3) NN (0,[])).bind (λo0=>
 (aB (lP n y2 o0) NN (0,[])).bind (λo1=>
 F (⟨o0,o1⟩:A9))))
def uF(want:J au)(d i:C):D au:=match want with
 |some r=>if r.day<d\/(r.day=d/\r.bq<i)then [r]else []
 |none=>[]
def Zbv(want:J au)(d i:C):K (uF want d i)<=1:=by
 unfold uF
 split
 ·split<;>simp
 ·simp
section
variable {n:ab} (hf:cD n) (hn:aX n=F Ze) {k:eM} {want:J au} (hp:∀p,fX k p=F Z) (hr:∀t,(∃y,az n.aC t.bq=F y)->dt k t=F (Zg (want=F t))) (hw:∀r,want=F r->fA n r=Ze)
include hf hn hp hr hw
theorem UE(o0:D L)(d:M)(hd:d<=60):aB (lQ n k o0 ((d:C),uF want d 0)) NN (0,uF want d 0)=F (uF want ((d+1:M):C) 0):=by
 have hlg:=pZ hn;have C5:uF want (d:C) (K n.aC:C)=uF want ((d+1:M):C) 0:=by
  unfold uF
  cases Ql:want with
  |none=>rfl
  |some r=>
   obtain⟨y,hy,_⟩:=cZ hf (hw r Ql);obtain⟨a,b⟩:=ky hy;have:=(VT.1 b).1;simp only
   by_cases h:r.day<(d:C)\/(r.day=(d:C)/\r.bq<(K n.aC:C))
   ·rw[if_pos h,if_pos Y]
   ·rw[if_neg h,if_neg Y]
 rw[<-C5];refine il (body:=lQ n k o0 ((d:C),uF want d 0)) (λi:M=>((i:C),uF want (d:C) (i:C))) (n:=K n.aC) (o:=uF want (d:C) (K n.aC:C)) (λi hi=>?_) ?_ NN YF
 ·have BL:aJ ((i:C)+1)=((i+1:M):C):=bz hi Y
  have hlen:=Zbv want (d:C) (i:C);have kZ:nB n (i:C) (d:C)=F (fA n ⟨(i:C),(d:C)⟩):=by rw[(sW hf _ _).1];exact sY hf ⟨(i:C),(d:C)⟩
  have ZgU:=hr ⟨(i:C),(d:C)⟩ ⟨n.aC[i],by rw[aS];exact VS hi⟩
  unfold lQ;simp only[Yi (show(i:C)<(K n.aC:C)by omega),Yw,Yi (show((K (uF want (d:C) (i:C)):C)<60)by omega),kZ,VR,BL]
  by_cases Ql:want=F ⟨(i:C),(d:C)⟩
  ·have e1:uF want (d:C) (i:C)=[]:=by unfold uF;rw[Ql];simp
   have e2:uF want (d:C) ((i+1:M):C)=[⟨(i:C),(d:C)⟩]:=by
    have bD:(i:C)<((i+1:M):C):=Y;unfold uF;rw[Ql];exact if_pos (.inr ⟨rfl,bD⟩)
   rw[hw _ Ql,Yw,ZgU,VR,Yi Ql,Yw,e1,e2];rfl
  ·have e2:uF want (d:C) ((i+1:M):C)=uF want (d:C) (i:C):=by
    unfold uF
    cases ZmF:want with
    |none=>rfl
    |some r=>
     have gL:¬(r.bq=(i:C)/\r.day=(d:C)):=λ⟨a,b⟩=>Ql (by rw[ZmF];obtain⟨x,y⟩:=r;simp only at a b;rw[a,b])
     simp only
     by_cases h:r.day<(d:C)\/(r.day=(d:C)/\r.bq<(i:C))
     ·rw[if_pos h,if_pos Y]
     ·rw[if_neg h,if_neg Y]
   rw[ZgU,Yt Ql,e2]
   cases fA n ⟨(i:C),(d:C)⟩<;>rfl
 ·unfold lQ
  simp only[Yt (show ¬(K n.aC:C)<(K n.aC:C)by omega),Yx]
theorem ZaF{l:D aI}{th aQ:C}(hk:fU n l th aQ=F k):pL n l th aQ=F ⟨[],want.toList⟩:=by
 have hlg:=pZ hn;have uP:K (aj n)<=40:=by have:=dR n;omega
 have hi:dy n=F true:=by rw[(iu hf).1];exact hn
 have e0:aB (lO n k (aj n)) NN (0,[])=F []:=by
  refine il (body:=lO n k (aj n)) (λi:M=>((i:C),([]:D L))) (n:=K (aj n)) (o:=[]) (λi hi=>?_) ?_ NN YF
  ·have hg:az (aj n) (i:C)=F (aj n)[i]:=by rw[aS];exact VS hi
   unfold lO;simp only[Yi (show(i:C)<(K (aj n):C)by omega),Yw,hg,VR,hp,Yx,bz hi Y]
  ·unfold lO
   simp
 have e1:aB (lP n k []) NN (0,[])=F want.toList:=by
  have h0:uF want 0 0=[]:=by
   unfold uF
   cases Ql:want with
   |none=>rfl
   |some r=>
    have:=za (hw r Ql);obtain⟨y,hy,_⟩:=cZ hf (hw r Ql);have:=(ky hy).1;simp only;rw[if_neg Y]
  have h61:uF want ((61:M):C) 0=want.toList:=by
   unfold uF
   cases Ql:want with
   |none=>rfl
   |some r=>
    have:=za (hw r Ql);simp only;rw[if_pos Y];rfl
  have:=il (body:=lP n k []) (λd:M=>((d:C),uF want (d:C) 0)) (n:=61) (o:=want.toList) (λd hd=>?_) ?_ NN YF
  ·rw[show((0:M):C)=0 from rfl,h0]at this
   exact this
  ·unfold lP
   rw[Yi (show(d:C)<=60 by omega),Yw,UE hf hn hp hr hw [] d Y,VR,aV Y]
   rfl
  ·unfold lP
   rw[<-h61];rfl
 unfold pL;rw[hi,hk,(cV hf).1,(cV hf).2];simp only[VR,VX,Yx,e0,e1]
end
section
variable {n:ab} (hf:cD n) (hn:aX n=F Ze) {l:D aI} (h:Ao n l) {th:C} (hs:(td th l).Pairwise rh) (hF:A7 n (td th l)) {aQ:C} (uu:∀s∈td th l,s.aQ<=aQ) {s:aI} (hl:(td th l).getLast?=F s)
include hf hn h hs hF uu hl
theorem Ml(h3:s.kind=3)(ht:fA n s.aN=Ze)(h1:bY n s.aN<=aQ)(h2:aQ<cH n s.aN):pL n l th aQ=F ⟨[],[s.aN]⟩/\jg n l th aQ s.aN=F true:=by
 obtain⟨y,hy,_⟩:=cZ hf ht;obtain⟨t1,t2,_⟩:=bX hf hn ht;have hk:=Qy hf hn h hs hF uu hl h3 hy t1 t2 h1 h2;refine⟨ZaF hf hn (want:=F s.aN) (λp=>rfl) (λt _=>?_) (λr e=>by rw[<-VV e];exact ht) hk,?_⟩
 ·unfold dt
  simp only[Yw,V8]
 ·have hit:db n s.aN=F true:=by rw[vk hf hn,sY hf,ht]
  unfold jg dt;simp only[hit,VR,Yw,hk,decide_true]
end
def l7(w:aw)(s0:C):J (C⊕(Unit⊕Bool)):=
 G (Zg (s0<(K w.ae:C)))
 (R (az w.ae s0) λy1=>
 R (gJ w.aa w.aL (aJ (s0+1)) w.now) λy2=>
 G (!y2.2)
 (F (.inl (aJ (s0+1))))
 (G (Zg (y1.state=3))
 (F (.inl (aJ (s0+1))))
 (G (Zg (y1.state=1))
 (R (oE w.aa w.aL (aJ (s0+1)) w.now y1.place) λy3=>
 G (!y3)
 (F (.inr (.inr Z)))
 (G (Zg (y1.state=2))
 (R (az y1.aE y1.aH) λy4=>
 R (jg w.aa w.aL (aJ (s0+1)) w.now y4) λy5=>
 G (!y5)
 (F (.inr (.inr Z)))
 (F (.inl (aJ (s0+1)))))
 (F (.inl (aJ (s0+1))))))
 (G (Zg (y1.state=2))
 (R (az y1.aE y1.aH) λy6=>
 R (jg w.aa w.aL (aJ (s0+1)) w.now y6) λy7=>
 G (!y7)
 (F (.inr (.inr Z)))
 (F (.inl (aJ (s0+1)))))
 (F (.inl (aJ (s0+1))))))))
 (F (.inr (.inl ())))
instance (w:aw):bm (l7 w):=⟨λs0=>(.un::.be 0 0 0::.un::X s0::(U 72 [])),λs0=>[F ⟨.of 33,10,[cL w]⟩]⟩
def mT(w:aw):J Bool:=
 (aB (l7 w) NN 0).bind (bj (λo0=>
 F Ze) (λr=>F r))
instance (w:aw):CT prog (mT w):=⟨9,[.ag (cL w)],[],λr=>vb r,λr=>[],cw (mT.eq_1 ..) func9 ntmps9 results9⟩
def Zho{l:D bf}(hl:K l<=1048576):rI l=F (Bn (l.map cn)):=by
 unfold rI Bn;rw[xE,VR]
 cases ep (l.map cn)with
 |false=>rfl
 |true=>
  simp only[VX,Yx,if_true];rw[BS wE hl (λa i x hx=>?_) λa=>by unfold qY;simp]
  ·rfl
  ·have hg:az l (i:C)=F x:=by rw[aS];exact hx
   have hi:=(VT.1 hx).1;unfold qY;simp only[nf,wE,cn,qP,hg,Yi (show(i:C)<K l by omega),Yw,VR,beq_iff_eq]
   by_cases h2:x.kind=2
   ·simp[h2,bj]
   ·by_cases h3:x.kind=3
    ·simp[h3,bj]
    ·simp[h2,h3,bj]
def mI(a:D bH)(b:D bH)(s0:C):J (C⊕(Unit⊕Bool)):=
 G (Zg (s0<(K a:C)))
 (R (az a s0) λy1=>
 R (az b s0) λy2=>
 G (!decide (y1=y2))
 (F (.inr (.inr Z)))
 (F (.inl (aJ (s0+1)))))
 (F (.inr (.inl ())))
instance (a:D bH)(b:D bH):bm (mI a b):=⟨λs0=>(.sl (a.map dK)::.sl (b.map dK)::(U 10 (X (K a:C)::X s0::(U 12 [])))),λs0=>[]⟩
def jj(a:D bH)(b:D bH):J Bool:=
 G (!decide ((K a:C)=(K b:C)))
 (F Z)
 ((aB (mI a b) NN 0).bind (bj (λo0=>
 F Ze) (λr=>F r)))
instance (a:D bH)(b:D bH):CT prog (jj a b):=⟨65,[.sl (a.map dK),.sl (b.map dK)],[],λr=>vb r,λr=>[],λH=>by replace H:=H0 H;unfold jj at H;exact je func65 rfl ntmps65 results65 λQ hQ Kf=>LA⟩
def mH(a:D bf)(b:D bf)(s0:C):J (C⊕(Unit⊕Bool)):=
 G (Zg (s0<(K a:C)))
 (R (az a s0) λy1=>
 R (az b s0) λy2=>
 G (!decide (y1=y2))
 (F (.inr (.inr Z)))
 (F (.inl (aJ (s0+1)))))
 (F (.inr (.inl ())))
instance (a:D bf)(b:D bf):bm (mH a b):=⟨λs0=>(.sl (a.map bV)::.sl (b.map bV)::(U 10 (X (K a:C)::X s0::(U 12 [])))),λs0=>[]⟩
def ji(a:D bf)(b:D bf):J Bool:=
 G (!decide ((K a:C)=(K b:C)))
 (F Z)
 ((aB (mH a b) NN 0).bind (bj (λo0=>
 F Ze) (λr=>F r)))
instance (a:D bf)(b:D bf):CT prog (ji a b):=⟨67,[.sl (a.map bV),.sl (b.map bV)],[],λr=>vb r,λr=>[],λH=>by replace H:=H0 H;unfold ji at H;exact je func67 rfl ntmps67 results67 λQ hQ Kf=>LA⟩
