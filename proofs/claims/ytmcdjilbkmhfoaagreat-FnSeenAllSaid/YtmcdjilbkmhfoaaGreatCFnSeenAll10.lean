/- A part of the proof of the statement in the last file of this claim: texts on the language of the program and on its functions. No condition. -/
import Derived.Test.YtmcdjilbkmhfoaaGreatCFnSeenAll9
import Derived.Test.YtmcdjilbkmhfoaaGreatCFnSeenAll5
import Derived.Test.YtmcdjilbkmhfoaaGreatCFnSeenAll6
import Derived.Test.YtmcdjilbkmhfoaaGreatCFnSeenAll8
import Derived.Test.YtmcdjilbkmhfoaaGreatCFnSeenAll7
namespace Go.Proofs.YtmcdjilbkmhfoaaGreat
set_option maxRecDepth 10000
open Go.RowKit Go.Lib Go.Sort
set_option linter.unusedVariables false
set_option linter.unusedSimpArgs false
set_option maxRecDepth 100000
set_option maxHeartbeats 4000000
theorem Zrg {w:World} {B Bx:Nat} {v v':Value} {xs:List Zj} (h:Own w B 130 v xs) (hx:w.heap[Bx]?=some (.cells #[v'] 39 (0,0))):v.ownBlock≠some Bx:=by
 rcases h.2 with ⟨hv,_⟩ | ⟨g,cap,cur,hv,hB,hg,_⟩
 ·rw [hv]; simp [Value.ownBlock]
 ·rw [hv]
  intro e
  have:g=Bx:=by simpa [Value.ownBlock] using e
  subst this
  rw [hg] at hx
  simp at hx
theorem Zqy (ys:List Zj) (j:Nat) (hj:j<ys.length):ddV ys (j+1)=ddV ys j++(if j=0∨¬ ys[j-1]?=some ys[j] then [ys[j]] else []):=by
 unfold ddV
 rw [List.range_succ,List.flatMap_append]
 simp only [List.flatMap_cons,List.flatMap_nil,List.append_nil,List.getElem?_eq_getElem hj]
theorem Zw1 {p x:Zj} (h:¬ p=x):¬ p.thing=x.thing∨(p.thing=x.thing∧¬ p.at_=x.at_)∨(p.thing=x.thing∧p.at_=x.at_∧¬ p.kind=x.kind)∨(p.thing=x.thing∧p.at_=x.at_∧p.kind=x.kind∧¬ p.place.toList=x.place.toList)∨
 (p.thing=x.thing∧p.at_=x.at_∧p.kind=x.kind∧p.place=x.place∧¬ p.trip.leg=x.trip.leg)∨(p.thing=x.thing∧p.at_=x.at_∧p.kind=x.kind∧p.place=x.place∧p.trip.leg=x.trip.leg∧¬ p.trip.day=x.trip.day):=by
 by_cases h1:p.thing=x.thing
 ·by_cases h2:p.at_=x.at_
  ·by_cases h3:p.kind=x.kind
   ·by_cases h4:p.place=x.place
    ·by_cases h5:p.trip.leg=x.trip.leg
     ·by_cases h6:p.trip.day=x.trip.day
      ·refine absurd ?_ h
       obtain ⟨a,b,c,d,⟨e,f⟩⟩:=p
       obtain ⟨a',b',c',d',⟨e',f'⟩⟩:=x
       simp only at h1 h2 h3 h4 h5 h6
       subst h1 h2 h3 h4 h5 h6
       rfl
      ·exact .inr (.inr (.inr (.inr (.inr ⟨h1,h2,h3,h4,h5,h6⟩))))
     ·exact .inr (.inr (.inr (.inr (.inl ⟨h1,h2,h3,h4,h5⟩))))
    ·exact .inr (.inr (.inr (.inl ⟨h1,h2,h3,fun e=>h4 (by rw [← baL]; exact e)⟩)))
   ·exact .inr (.inr (.inl ⟨h1,h2,h3⟩))
  ·exact .inr (.inl ⟨h1,h2⟩)
 ·exact .inl h1
section
variable {n:Za} (hf:ZV n) {w:World} {O:Nat→Prop} (ht:Tab w O) {v0 v1:Value} (h0:RepC w (SW w) (.sl (n.legs.map cLeg)) v0) (h1:RepC w (SW w) (.sl (n.off.map cInt)) v1)
 {l:List Zj} (hl:l.length≤1048576) {A:Option Addr} {ln:Nat} (hln:l.length≤ln) (hlm:l≠[]→ln≤maxLen) (hlr:Rd w w.heap.size A l)
include hf ht h0 h1 hl hln hlr
theorem Zvi:Calls Tryz.prog 220 #[.agg #[v0,v1,I n.change],.slice A l.length ln] w fun e w'=>∃ v ys,e=.returned v∧ys.Perm (ZgM n l)∧ys.Pairwise (fun a b=>scB b a=false)∧Own w' w.heap.size 130 v (ddV ys ys.length)∧Up w w':=by
 have hA:=fun (W:World) (hu:Up w W) (s:Zj)=>ZsM hf ht h0 h1 hu s
 have HA:Hid _:=hA
 have HL:Hid (Rd w w.heap.size A l):=hlr
 have HT:Hid (Tab w O):=ht
 have hmin:(if (200:Int)<(l.length:Int) then (200:Int) else (l.length:Int))=((min l.length 200:Nat):Int):=by split <;> omega
 clear hA hf ht h0 h1 hlr
 go_enter Tryz.func220,Tryz.ntmps220
 go_wp2_with fail
 have e16:(min (l.length:Int) 200).toNat=min l.length 200:=by omega
 have e17:max (min (l.length:Int) 200) 0=((min l.length 200:Nat):Int):=by omega
 rw [e16,e17]
 clear e16 e17
 have hm1:min l.length 200≤l.length:=by omega
 have hm2:min l.length 200≤200:=by omega
 have hmt:l.take 200=l.take (min l.length 200):=by
  rcases Nat.le_total l.length 200 with h | h
  ·rw [Nat.min_eq_left h,List.take_of_length_le h,List.take_length]
  ·rw [Nat.min_eq_right h]
 have HMT:=Lib.hid hmt
 clear hmt
 generalize hmm:min l.length 200=m at hm1 hm2 HMT ⊢
 clear hmm
 go_loopw [18] (fun vi wr=>∃ (i:Nat) (v:Value),vi=.int .i64 i∧i≤m∧Own wr (w.heap.size+1) 130 v ((l.take i).filter (okS1 n))∧wr.heap[w.heap.size+2]?=some (.cells #[v] 39 (0,0))∧Up (w.alloc (.cells #[v0,v1,I n.change] 35)) wr) (fun vi _=>m-(intOf vi).toNat)
 case atStart=>
  refine ⟨0,.slice (some ⟨w.heap.size+1,0,none⟩) 0 0,by go_num,by omega,?_,?_,?_⟩
  ·refine ⟨by rw [Zd6],.inr ⟨w.heap.size+1,0,#[],rfl,Nat.le_refl _,?_,by simp,by unfold maxLen; omega,by simp,by simp [flat]⟩⟩
   rw [heap_alloc_old _ _ (by simp)]
   have:=heap_alloc_new (w.alloc (.cells #[v0,v1,I n.change] 35)) (.cells #[] 130)
   simpa using this
  ·have:=heap_alloc_new ((w.alloc (.cells #[v0,v1,I n.change] 35)).alloc (.cells #[] 130)) (.cells #[.slice (some ⟨w.heap.size+1,0,none⟩) 0 0] 39)
   simpa using this
  ·exact Up.al _ (Up.al _ (Up.rfl' _))
 case round=>
  obtain ⟨i,v,rfl,hi,hv,hx,hwr⟩:=hrel
  obtain ⟨A3,c3,rfl,hc3,hm3⟩:=hv.form
  have hvl:((l.take i).filter (okS1 n)).length≤200:=Nat.le_trans (List.length_filter_le _ _) (by rw [List.length_take]; omega)
  have hcx:wr.cell? ⟨w.heap.size+2,0,none⟩=some (.slice A3 ((l.take i).filter (okS1 n)).length c3):=by rw [cell_of_row wr _ 0 _ _ (0,0) hx]; rfl
  have hz:w.heap.size+2<wr.heap.size:=(Array.getElem?_eq_some_iff.1 hx).1
  have HV:=Lib.hid hv
  have HX:=Lib.hid hx
  have HWR:=Lib.hid hwr
  have e0:wr.cell? ⟨w.heap.size,0,none⟩=some v0:=Zbi (by simp) (by simp) hwr
  have e1:wr.cell? ⟨w.heap.size,1,none⟩=some v1:=Zbi (by simp) (by simp) hwr
  have e2:wr.cell? ⟨w.heap.size,2,none⟩=some (I n.change):=Zbi (by simp) (by simp) hwr
  clear hv hx hwr hc3 hm3
  by_cases hlt:i<m
  ·have hil:i<l.length:=by omega
   obtain ⟨b,off,rfl,hbb,hcc⟩:=(HL.out.up (Up.step HWR.out (Up.al _ (Up.rfl' w)))).at_ (List.getElem?_eq_getElem hil)
   have d0:wr.cell? ⟨b,off+i*6,none⟩=some (I l[i].thing):=hcc 0 _ rfl
   have d1:wr.cell? ⟨b,off+i*6+1,none⟩=some (I l[i].at_):=hcc 1 _ rfl
   have d2:wr.cell? ⟨b,off+i*6+2,none⟩=some (I l[i].kind):=hcc 2 _ rfl
   have d3:wr.cell? ⟨b,off+i*6+3,none⟩=some (.string l[i].place):=hcc 3 _ rfl
   have d4:wr.cell? ⟨b,off+i*6+4,none⟩=some (I l[i].trip.leg):=hcc 4 _ rfl
   have d5:wr.cell? ⟨b,off+i*6+5,none⟩=some (I l[i].trip.day):=hcc 5 _ rfl
   clear hcc
   have hz0:w.heap.size<wr.heap.size:=by omega
   have htk:(l.take (i+1)).filter (okS1 n)=(l.take i).filter (okS1 n)++(if okS1 n l[i]=true then [l[i]] else []):=by
    rw [List.take_succ_eq_append_getElem hil,List.filter_append]
    by_cases h:okS1 n l[i]=true
    ·simp [h]
    ·simp [h]
   have HTK:=Lib.hid htk
   clear htk
   generalize l[i]=x at d0 d1 d2 d3 d4 d5 HTK ⊢
   cases hok:okS1 n x with
   | false=>
    have HOK:=Lib.hid hok
    clear hok
    go_wp2_with (go_at_call 140; refine (HA.out _ (by (repeat (first | exact Up.rfl' _ | (refine Up.al _ ?_) | (refine Up.dr _ ?_) | (refine Up.dr1 ?_) | (refine Up.sc ?_ (by first | exact Nat.le_refl _ | (simp; done) | omega) _) | (refine Up.step (by assumption) ?_)))) x).mono ?_; rintro e w5 ⟨rfl,hu5⟩; rw [HOK.out]; refine Hid.out ?_)
    have hx5:w5.heap[w.heap.size+2]?=some (.cells #[.slice A3 ((l.take i).filter (okS1 n)).length c3] 39 (0,0)):=(hu5.block _ (by simp; omega)).trans (((Up.al _ (Up.rfl' wr)).block _ hz).trans HX.out)
    have hwr5:Up (w.alloc (.cells #[v0,v1,I n.change] 35)) w5:=Up.step hu5 (Up.al _ HWR.out)
    have hv5:=HV.out.up (Up.step hu5 (Up.al _ (Up.rfl' wr)))
    have HX5:=Lib.hid hx5
    have HW5:=Lib.hid hwr5
    have HV5:=Lib.hid hv5
    clear hx5 hwr5 hv5 hu5
    refine Lib.hid ?_
    go_wp2
    refine ⟨⟨i+1,_,by go_num,by omega,?_,HX5.out,HW5.out⟩,by simp [intOf]; omega⟩
    rw [HTK.out,HOK.out,if_neg (by simp),List.append_nil]
    exact HV5.out
   | true=>
    have HOK:=Lib.hid hok
    clear hok
    go_wp2_with (go_at_call 140; refine (HA.out _ (by (repeat (first | exact Up.rfl' _ | (refine Up.al _ ?_) | (refine Up.dr _ ?_) | (refine Up.dr1 ?_) | (refine Up.sc ?_ (by first | exact Nat.le_refl _ | (simp; done) | omega) _) | (refine Up.step (by assumption) ?_)))) x).mono ?_; rintro e w5 ⟨rfl,hu5⟩; rw [HOK.out]; refine Hid.out ?_)
    have f0:w5.cell? ⟨wr.heap.size,0,none⟩=some (I x.thing):=Zbi (by simp) (by simp) hu5
    have f1:w5.cell? ⟨wr.heap.size,1,none⟩=some (I x.at_):=Zbi (by simp) (by simp) hu5
    have f2:w5.cell? ⟨wr.heap.size,2,none⟩=some (I x.kind):=Zbi (by simp) (by simp) hu5
    have f3:w5.cell? ⟨wr.heap.size,3,none⟩=some (.string x.place):=Zbi (by simp) (by simp) hu5
    have f4:w5.cell? ⟨wr.heap.size,4,none⟩=some (I x.trip.leg):=Zbi (by simp) (by simp) hu5
    have f5:w5.cell? ⟨wr.heap.size,5,none⟩=some (I x.trip.day):=Zbi (by simp) (by simp) hu5
    have hs5:wr.heap.size+1≤w5.heap.size:=by have:=hu5.size; simpa using this
    have hx5:w5.heap[w.heap.size+2]?=some (.cells #[.slice A3 ((l.take i).filter (okS1 n)).length c3] 39 (0,0)):=(hu5.block _ (by simp; omega)).trans (((Up.al _ (Up.rfl' wr)).block _ hz).trans HX.out)
    have fx:w5.cell? ⟨w.heap.size+2,0,none⟩=some (.slice A3 ((l.take i).filter (okS1 n)).length c3):=by rw [cell_of_row w5 _ 0 _ _ (0,0) hx5]; rfl
    have hwr5:Up (w.alloc (.cells #[v0,v1,I n.change] 35)) w5:=Up.step hu5 (Up.al _ HWR.out)
    have hv5:=HV.out.up (Up.step hu5 (Up.al _ (Up.rfl' wr)))
    have hrd1:Rd (w5.alloc (.cells #[I x.thing,I x.at_,I x.kind,.string x.place,I x.trip.leg,I x.trip.day] 130)) (w5.heap.size+1) (some ⟨w5.heap.size,0,none⟩) [x]:=Rd.one w5 130 x (w5.heap.size+1) (by omega)
    have HX5:=Lib.hid hx5
    have HW5:=Lib.hid hwr5
    have HV5:=Lib.hid hv5
    have HR1:=Lib.hid hrd1
    have hz5:w.heap.size+2<w5.heap.size:=by omega
    have hz6:w5.heap.size≠w.heap.size+2:=by omega
    have hz7:w.heap.size+2≠w5.heap.size:=by omega
    clear hx5 hwr5 hv5 hrd1 hu5 d0 d1 d2 d3 d4 d5 e0 e1 e2 hcx
    refine Lib.hid ?_
    go_wp2_with (at_builtin; refine ZN Zue rfl (.tmp 25) (.tmp 27) rfl (base:=w.heap.size+1) (ys:=(l.take i).filter (okS1 n)) (xs:=[x]) (by rfl) (HV5.out.up (by (repeat (first | exact Up.rfl' _ | (refine Up.al _ ?_) | (refine Up.dr _ ?_) | (refine Up.dr1 ?_) | (refine Up.sc ?_ (by first | exact Nat.le_refl _ | (simp; done) | omega) _) | (refine Up.step (by assumption) ?_))))) 1 (by rfl) rfl HR1.out (by simp only [List.length_cons,List.length_nil]; omega) (by unfold maxLen; simp only [List.length_cons,List.length_nil]; omega) (by simp; omega) ?_; intro v' w6 ho6 hg6 _ hu6; refine Hid.out ?_)
    have hx6:w6.heap[w.heap.size+2]?=some (.cells #[.slice A3 ((l.take i).filter (okS1 n)).length c3] 39 (0,0)):=by
     rw [hg6.block _ (by simp; omega) (fun e=>Zrg HV5.out HX5.out e.symm)]
     exact ((Up.al _ (Up.rfl' w5)).block _ hz5).trans HX5.out
    obtain ⟨A4,c4,rfl,hc4,hm4⟩:=ho6.form
    have hl6:((l.take i).filter (okS1 n)++[x]).length=((l.take i).filter (okS1 n)).length+1:=by simp
    rw [hl6] at ho6 ⊢
    clear hl6
    have hcell6:w6.cell? ⟨w.heap.size+2,0,none⟩=some (.slice A3 ((l.take i).filter (okS1 n)).length c3):=by rw [cell_of_row w6 _ 0 _ _ (0,0) hx6]; rfl
    have hfr6:w6.frozen? ⟨w.heap.size+2,0,none⟩=false:=by simp [World.frozen?,hx6]
    have hwr6:Up (w.alloc (.cells #[v0,v1,I n.change] 35)) w6:=hu6 _ (by simp) (Up.al _ HW5.out)
    have HX6:=Lib.hid hx6
    have HO6:=Lib.hid ho6
    have HW6:=Lib.hid hwr6
    clear hx6 ho6 hg6 hu6 hwr6 hc4 hm4
    refine Lib.hid ?_
    go_wp2
    refine ⟨⟨i+1,_,by go_num,by omega,?_,heap_setCell_same w6 _ 0 _ _ _ HX6.out,Up.sc HW6.out (by simp) _⟩,by simp [intOf]; omega⟩
    rw [HTK.out,HOK.out,if_pos rfl]
    exact HO6.out.grown (row:=some (w.heap.size+2)) ⟨rfl,rfl,rfl,by simp,fun k hk hne=>heap_setCell_other _ _ _ _ (fun e=>hne (by rw [e]))⟩ (.inr (Zrg HO6.out HX6.out))
  ·have hie:i=m:=by omega
   subst hie
   have hvs:(l.take i).filter (okS1 n)=ZgM n l:=by unfold ZgM; rw [HMT.out]
   rw [hvs] at HV HX hcx hvl
   clear hvs
   have hst:=Ztp HV.out HX.out (by omega) (Zr8 HT.out (Up.step HWR.out (Up.al _ (Up.rfl' w))) (by omega)) (fun b h=>h)
   have hge:¬ (i:Int)<(i:Int):=by omega
   go_wp2_with (go_at_call 200; refine hst.mono ?_; rintro e w4 ⟨rfl,ys,hp,hs,ho4,hu4⟩; refine Hid.out ?_)
   have hyl:ys.length=(ZgM n l).length:=hp.length_eq
   have hup4:Up (w.alloc (.cells #[v0,v1,I n.change] 35)) w4:=by
    have h:=HWR.out
    exact ⟨hu4.os.trans h.os,hu4.tape.trans h.tape,hu4.output.trans h.output,Nat.le_trans h.size hu4.size,fun b hb=>(hu4.block b (Nat.lt_of_lt_of_le hb h.size) (fun hh=>by simp at hb; omega)).trans (h.block b hb)⟩
   have ex:w4.heap[w.heap.size+2]?=some (.cells #[.slice A3 (ZgM n l).length c3] 39 (0,0)):=(hu4.block _ hz (fun hh=>hh.2 rfl)).trans HX.out
   have exc:w4.cell? ⟨w.heap.size+2,0,none⟩=some (.slice A3 (ZgM n l).length c3):=by rw [cell_of_row w4 _ 0 _ _ (0,0) ex]; rfl
   have hrd:Rd w4 w4.heap.size A3 ys:=by
    rw [← hyl] at ho4
    obtain ⟨A5,c5,e5,h5,h6⟩:=ho4.form
    obtain ⟨rfl,rfl⟩:A3=A5∧c3=c5:=by simpa using e5
    exact ho4.rd
   have HYL:=Lib.hid hyl
   have HA3:=Lib.hid (show A3=A3 from rfl)
   have hz4:w.heap.size+2<w4.heap.size:=Nat.lt_of_lt_of_le hz hu4.size
   have HRD:=Lib.hid hrd
   have HUP:=Lib.hid hup4
   have HP:=Lib.hid hp
   have HS:=Lib.hid hs
   clear hst hp hs ho4 hu4 hup4 ex hrd hyl
   refine Lib.hid ?_
   go_wp2_with fail
   have hNl:(ZgM n l).length≤200:=hvl
   generalize hNN:(ZgM n l).length=N at *
   clear hNN
   go_loopw [37,8] (fun vi v8 wr=>∃ (i:Nat),vi=.int .i64 i∧i≤N∧Own wr w4.heap.size 130 v8 (ddV ys i)∧Up w4 wr) (fun vi _ _=>N-(intOf vi).toNat)
   case atStart=>
    refine ⟨0,by go_num,by omega,?_,Up.al _ (Up.rfl' _)⟩
    rw [show ddV ys 0=[] from rfl]
    exact ⟨by rw [Zd6],.inr ⟨w4.heap.size,0,#[],rfl,Nat.le_refl _,heap_alloc_new _ _,by simp,by unfold maxLen; omega,by simp,by simp [flat]⟩⟩
   case round=>
    obtain ⟨j,rfl,hj,hv,hwr⟩:=hrel
    obtain ⟨A6,c6,rfl,hc6,hm6⟩:=hv.form
    have HV2:=Lib.hid hv
    have HWR2:=Lib.hid hwr
    have hzr:w.heap.size+2<wr.heap.size:=Nat.lt_of_lt_of_le hz4 hwr.size
    have hcx:wr.cell? ⟨w.heap.size+2,0,none⟩=some (.slice A3 N c3):=Zbi exc hz4 hwr
    clear hv hwr hc6 hm6
    by_cases hlt:j<N
    ·have hjl:j<ys.length:=by rw [HYL.out]; exact hlt
     obtain ⟨b,off,hA3,hbb,hcc⟩:=(HRD.out.up HWR2.out).at_ (List.getElem?_eq_getElem hjl)
     subst hA3
     have d0:wr.cell? ⟨b,off+j*6,none⟩=some (I ys[j].thing):=hcc 0 _ rfl
     have d1:wr.cell? ⟨b,off+j*6+1,none⟩=some (I ys[j].at_):=hcc 1 _ rfl
     have d2:wr.cell? ⟨b,off+j*6+2,none⟩=some (I ys[j].kind):=hcc 2 _ rfl
     have d3:wr.cell? ⟨b,off+j*6+3,none⟩=some (.string ys[j].place):=hcc 3 _ rfl
     have d4:wr.cell? ⟨b,off+j*6+4,none⟩=some (I ys[j].trip.leg):=hcc 4 _ rfl
     have d5:wr.cell? ⟨b,off+j*6+5,none⟩=some (I ys[j].trip.day):=hcc 5 _ rfl
     clear hcc
     have hpos:(j:Int)<(N:Int):=by omega
     have hdl:(ddV ys j).length≤200:=by
      have:∀ k,(ddV ys k).length≤k:=fun k=>by
       induction k with
       | zero=>simp [ddV]
       | succ k ih=>
        unfold ddV at ih ⊢
        rw [List.range_succ,List.flatMap_append,List.length_append]
        simp only [List.flatMap_cons,List.flatMap_nil,List.append_nil]
        split
        ·split <;> simp only [List.length_cons,List.length_nil] <;> omega
        ·simp only [List.length_nil]; omega
      have:=this j
      omega
     have HDD:=Lib.hid (Zqy ys j hjl)
     have hpx:∀ (h:¬ j=0),∃ p,ys[j-1]?=some p:=fun h=>⟨_,List.getElem?_eq_getElem (show j-1<ys.length by omega)⟩
     have HPX:=Lib.hid hpx
     clear hpx
     generalize ys[j]=x at d0 d1 d2 d3 d4 d5 HDD ⊢
     by_cases hj0:j=0
     ·have hjb:((j:Int) == 0)=true:=by simp [hj0]
      have HYES:Hid (j=0∨¬ ys[j-1]?=some x):=.inl hj0
      clear hj0
      go_wp2_with fail
      (
       have f0:(wr.alloc (.cells #[I x.thing,I x.at_,I x.kind,.string x.place,I x.trip.leg,I x.trip.day] 130)).cell? ⟨wr.heap.size,0,none⟩=some (I x.thing):=by simp
       have f1:(wr.alloc (.cells #[I x.thing,I x.at_,I x.kind,.string x.place,I x.trip.leg,I x.trip.day] 130)).cell? ⟨wr.heap.size,1,none⟩=some (I x.at_):=by simp
       have f2:(wr.alloc (.cells #[I x.thing,I x.at_,I x.kind,.string x.place,I x.trip.leg,I x.trip.day] 130)).cell? ⟨wr.heap.size,2,none⟩=some (I x.kind):=by simp
       have f3:(wr.alloc (.cells #[I x.thing,I x.at_,I x.kind,.string x.place,I x.trip.leg,I x.trip.day] 130)).cell? ⟨wr.heap.size,3,none⟩=some (.string x.place):=by simp
       have f4:(wr.alloc (.cells #[I x.thing,I x.at_,I x.kind,.string x.place,I x.trip.leg,I x.trip.day] 130)).cell? ⟨wr.heap.size,4,none⟩=some (I x.trip.leg):=by simp
       have f5:(wr.alloc (.cells #[I x.thing,I x.at_,I x.kind,.string x.place,I x.trip.leg,I x.trip.day] 130)).cell? ⟨wr.heap.size,5,none⟩=some (I x.trip.day):=by simp
       have fu:Up wr (wr.alloc (.cells #[I x.thing,I x.at_,I x.kind,.string x.place,I x.trip.leg,I x.trip.day] 130)):=Up.al _ (Up.rfl' wr)
       generalize (wr.alloc (.cells #[I x.thing,I x.at_,I x.kind,.string x.place,I x.trip.leg,I x.trip.day] 130))=w5 at f0 f1 f2 f3 f4 f5 fu ⊢
       (have Ef0:=Ups.cell f0; have Ef1:=Ups.cell f1; have Ef2:=Ups.cell f2; have Ef3:=Ups.cell f3; have Ef4:=Ups.cell f4; have Ef5:=Ups.cell f5; refine Zhd (by kernel_rfl) (by kernel_rfl) ?_; (repeat (go_big_quiet_step (fail))); refine wpQuiet_nil ?_; intro wqa hqa; clear Ef0 Ef1 Ef2 Ef3 Ef4 Ef5; replace f0:=Zb3 f0 hqa; replace f1:=Zb3 f1 hqa; replace f2:=Zb3 f2 hqa; replace f3:=Zb3 f3 hqa; replace f4:=Zb3 f4 hqa; replace f5:=Zb3 f5 hqa)
       refine Hid.out ?_)
      have hwr5:Up w4 wqa:=Up.step hqa (Up.step fu HWR2.out)
      have hv5:=HV2.out.up (Up.step hqa fu)
      have hs5:w.heap.size+2<wqa.heap.size:=Nat.lt_of_lt_of_le hzr (Nat.le_trans fu.size hqa.size)
      have hs6:w4.heap.size≤wqa.heap.size:=hwr5.size
      have hrd1:Rd (wqa.alloc (.cells #[I x.thing,I x.at_,I x.kind,.string x.place,I x.trip.leg,I x.trip.day] 130)) (wqa.heap.size+1) (some ⟨wqa.heap.size,0,none⟩) [x]:=Rd.one wqa 130 x (wqa.heap.size+1) (by omega)
      have HW5:=Lib.hid hwr5
      have HV5:=Lib.hid hv5
      have HR1:=Lib.hid hrd1
      clear hwr5 hv5 hrd1 hqa fu
      refine Lib.hid ?_
      go_wp2_with (at_builtin; refine ZN Zue rfl (.tmp 53) (.tmp 55) rfl (base:=w4.heap.size) (ys:=ddV ys j) (xs:=[x]) (by rfl) (HV5.out.up (by (repeat (first | exact Up.rfl' _ | (refine Up.al _ ?_) | (refine Up.dr _ ?_) | (refine Up.dr1 ?_) | (refine Up.sc ?_ (by first | exact Nat.le_refl _ | (simp; done) | omega) _) | (refine Up.step (by assumption) ?_))))) 1 (by rfl) rfl HR1.out (by simp only [List.length_cons,List.length_nil]; omega) (by unfold maxLen; simp only [List.length_cons,List.length_nil]; omega) (by simp; omega) ?_; intro v' w6 ho6 hg6 _ hu6; refine Hid.out ?_)
      have hwr6:Up w4 w6:=hu6 _ (by simp) (Up.al _ HW5.out)
      have HO6:=Lib.hid ho6
      have HW6:=Lib.hid hwr6
      clear ho6 hg6 hu6 hwr6
      refine Lib.hid ?_
      go_wp2
      refine ⟨⟨j+1,by go_num,by omega,?_,HW6.out⟩,by simp [intOf]; omega⟩
      rw [HDD.out,if_pos HYES.out]
      exact HO6.out
     ·obtain ⟨p,hp1⟩:=HPX.out hj0
      obtain ⟨k,hk⟩:∃ k,j=k+1:=⟨j-1,by omega⟩
      have hk1:(j:Int)-1=(k:Int):=by omega
      have hkN:k<N:=by omega
      have hjb:((j:Int) == 0)=false:=by simp [hj0]
      rw [show j-1=k by omega] at hp1
      obtain ⟨b',off',e',hbb',hcc⟩:=(HRD.out.up HWR2.out).at_ hp1
      obtain ⟨rfl,rfl⟩:b=b'∧off=off':=by simpa using e'
      have HP1:=Lib.hid hp1
      by_cases hpx:p=x
      ·subst hpx
       have HNO:Hid (¬ (j=0∨¬ ys[j-1]?=some p)):=fun h=>by
        rcases h with h | h
        ·exact hj0 h
        ·exact h (by rw [show j-1=k by omega]; exact HP1.out)
       clear hk hj0 hp1 e'
       clear hbb'
       go_wp2_with fail
       (
        have f0:(wr.alloc (.cells #[I p.thing,I p.at_,I p.kind,.string p.place,I p.trip.leg,I p.trip.day] 130)).cell? ⟨wr.heap.size,0,none⟩=some (I p.thing):=by simp
        have f1:(wr.alloc (.cells #[I p.thing,I p.at_,I p.kind,.string p.place,I p.trip.leg,I p.trip.day] 130)).cell? ⟨wr.heap.size,1,none⟩=some (I p.at_):=by simp
        have f2:(wr.alloc (.cells #[I p.thing,I p.at_,I p.kind,.string p.place,I p.trip.leg,I p.trip.day] 130)).cell? ⟨wr.heap.size,2,none⟩=some (I p.kind):=by simp
        have f3:(wr.alloc (.cells #[I p.thing,I p.at_,I p.kind,.string p.place,I p.trip.leg,I p.trip.day] 130)).cell? ⟨wr.heap.size,3,none⟩=some (.string p.place):=by simp
        have f4:(wr.alloc (.cells #[I p.thing,I p.at_,I p.kind,.string p.place,I p.trip.leg,I p.trip.day] 130)).cell? ⟨wr.heap.size,4,none⟩=some (I p.trip.leg):=by simp
        have f5:(wr.alloc (.cells #[I p.thing,I p.at_,I p.kind,.string p.place,I p.trip.leg,I p.trip.day] 130)).cell? ⟨wr.heap.size,5,none⟩=some (I p.trip.day):=by simp
        have fu:Up wr (wr.alloc (.cells #[I p.thing,I p.at_,I p.kind,.string p.place,I p.trip.leg,I p.trip.day] 130)):=Up.al _ (Up.rfl' wr)
        have fx:(wr.alloc (.cells #[I p.thing,I p.at_,I p.kind,.string p.place,I p.trip.leg,I p.trip.day] 130)).cell? ⟨w.heap.size+2,0,none⟩=some (.slice (some ⟨b,off,none⟩) N c3):=Zbi hcx hzr fu
        have g0:(wr.alloc (.cells #[I p.thing,I p.at_,I p.kind,.string p.place,I p.trip.leg,I p.trip.day] 130)).cell? ⟨b,off+k*6,none⟩=some (I p.thing):=Zbi (hcc 0 _ rfl) hbb fu
        have g1:(wr.alloc (.cells #[I p.thing,I p.at_,I p.kind,.string p.place,I p.trip.leg,I p.trip.day] 130)).cell? ⟨b,off+k*6+1,none⟩=some (I p.at_):=Zbi (hcc 1 _ rfl) hbb fu
        have g2:(wr.alloc (.cells #[I p.thing,I p.at_,I p.kind,.string p.place,I p.trip.leg,I p.trip.day] 130)).cell? ⟨b,off+k*6+2,none⟩=some (I p.kind):=Zbi (hcc 2 _ rfl) hbb fu
        have g3:(wr.alloc (.cells #[I p.thing,I p.at_,I p.kind,.string p.place,I p.trip.leg,I p.trip.day] 130)).cell? ⟨b,off+k*6+3,none⟩=some (.string p.place):=Zbi (hcc 3 _ rfl) hbb fu
        have g4:(wr.alloc (.cells #[I p.thing,I p.at_,I p.kind,.string p.place,I p.trip.leg,I p.trip.day] 130)).cell? ⟨b,off+k*6+4,none⟩=some (I p.trip.leg):=Zbi (hcc 4 _ rfl) hbb fu
        have g5:(wr.alloc (.cells #[I p.thing,I p.at_,I p.kind,.string p.place,I p.trip.leg,I p.trip.day] 130)).cell? ⟨b,off+k*6+5,none⟩=some (I p.trip.day):=Zbi (hcc 5 _ rfl) hbb fu
        clear hcc
        generalize (wr.alloc (.cells #[I p.thing,I p.at_,I p.kind,.string p.place,I p.trip.leg,I p.trip.day] 130))=w5 at f0 f1 f2 f3 f4 f5 fu fx g0 g1 g2 g3 g4 g5 ⊢
        (have Ef0:=Ups.cell f0; have Ef1:=Ups.cell f1; have Ef2:=Ups.cell f2; have Ef3:=Ups.cell f3; have Ef4:=Ups.cell f4; have Ef5:=Ups.cell f5; have Efx:=Ups.cell fx; have Eg0:=Ups.cell g0; have Eg1:=Ups.cell g1; have Eg2:=Ups.cell g2; have Eg3:=Ups.cell g3; have Eg4:=Ups.cell g4; have Eg5:=Ups.cell g5; refine Zhd (by kernel_rfl) (by kernel_rfl) ?_; (repeat (go_big_quiet_step (fail))); refine wpQuiet_nil ?_; intro wqa hqa; clear Ef0 Ef1 Ef2 Ef3 Ef4 Ef5 Efx Eg0 Eg1 Eg2 Eg3 Eg4 Eg5; replace f0:=Zb3 f0 hqa; replace f1:=Zb3 f1 hqa; replace f2:=Zb3 f2 hqa; replace f3:=Zb3 f3 hqa; replace f4:=Zb3 f4 hqa; replace f5:=Zb3 f5 hqa; replace fx:=Zb3 fx hqa; replace g0:=Zb3 g0 hqa; replace g1:=Zb3 g1 hqa; replace g2:=Zb3 g2 hqa; replace g3:=Zb3 g3 hqa; replace g4:=Zb3 g4 hqa; replace g5:=Zb3 g5 hqa)
        refine Hid.out ?_)
       have hwr5:Up w4 wqa:=Up.step hqa (Up.step fu HWR2.out)
       have hv5:=HV2.out.up (Up.step hqa fu)
       have HW5:=Lib.hid hwr5
       have HV5:=Lib.hid hv5
       clear hwr5 hv5 hqa fu
       refine Lib.hid ?_
       go_wp2
       refine ⟨⟨j+1,by go_num,by omega,?_,HW5.out⟩,by simp [intOf]; omega⟩
       rw [HDD.out,if_neg HNO.out,List.append_nil]
       exact HV5.out
      ·have HYES:Hid (j=0∨¬ ys[j-1]?=some x):=.inr (by rw [show j-1=k by omega,HP1.out]; exact fun h=>hpx (Option.some.inj h))
       clear hk hj0 hp1 e'
       have hcase:=Zw1 hpx
       clear hpx HP1
       obtain ⟨pt,pa,pk,pp,pl,pd⟩:=p
       simp only at hcase hcc
       rcases hcase with h | ⟨rfl,h⟩ | ⟨rfl,rfl,h⟩ | ⟨rfl,rfl,rfl,h⟩ | ⟨rfl,rfl,rfl,rfl,h⟩ | ⟨rfl,rfl,rfl,rfl,rfl,h⟩
       all_goals
        (clear hbb'
         go_wp2_with fail
         (
          have f0:(wr.alloc (.cells #[I x.thing,I x.at_,I x.kind,.string x.place,I x.trip.leg,I x.trip.day] 130)).cell? ⟨wr.heap.size,0,none⟩=some (I x.thing):=by simp
          have f1:(wr.alloc (.cells #[I x.thing,I x.at_,I x.kind,.string x.place,I x.trip.leg,I x.trip.day] 130)).cell? ⟨wr.heap.size,1,none⟩=some (I x.at_):=by simp
          have f2:(wr.alloc (.cells #[I x.thing,I x.at_,I x.kind,.string x.place,I x.trip.leg,I x.trip.day] 130)).cell? ⟨wr.heap.size,2,none⟩=some (I x.kind):=by simp
          have f3:(wr.alloc (.cells #[I x.thing,I x.at_,I x.kind,.string x.place,I x.trip.leg,I x.trip.day] 130)).cell? ⟨wr.heap.size,3,none⟩=some (.string x.place):=by simp
          have f4:(wr.alloc (.cells #[I x.thing,I x.at_,I x.kind,.string x.place,I x.trip.leg,I x.trip.day] 130)).cell? ⟨wr.heap.size,4,none⟩=some (I x.trip.leg):=by simp
          have f5:(wr.alloc (.cells #[I x.thing,I x.at_,I x.kind,.string x.place,I x.trip.leg,I x.trip.day] 130)).cell? ⟨wr.heap.size,5,none⟩=some (I x.trip.day):=by simp
          have fu:Up wr (wr.alloc (.cells #[I x.thing,I x.at_,I x.kind,.string x.place,I x.trip.leg,I x.trip.day] 130)):=Up.al _ (Up.rfl' wr)
          have fx:(wr.alloc (.cells #[I x.thing,I x.at_,I x.kind,.string x.place,I x.trip.leg,I x.trip.day] 130)).cell? ⟨w.heap.size+2,0,none⟩=some (.slice (some ⟨b,off,none⟩) N c3):=Zbi hcx hzr fu
          have g0:(wr.alloc (.cells #[I x.thing,I x.at_,I x.kind,.string x.place,I x.trip.leg,I x.trip.day] 130)).cell? ⟨b,off+k*6,none⟩=some _:=Zbi (hcc 0 _ rfl) hbb fu
          have g1:(wr.alloc (.cells #[I x.thing,I x.at_,I x.kind,.string x.place,I x.trip.leg,I x.trip.day] 130)).cell? ⟨b,off+k*6+1,none⟩=some _:=Zbi (hcc 1 _ rfl) hbb fu
          have g2:(wr.alloc (.cells #[I x.thing,I x.at_,I x.kind,.string x.place,I x.trip.leg,I x.trip.day] 130)).cell? ⟨b,off+k*6+2,none⟩=some _:=Zbi (hcc 2 _ rfl) hbb fu
          have g3:(wr.alloc (.cells #[I x.thing,I x.at_,I x.kind,.string x.place,I x.trip.leg,I x.trip.day] 130)).cell? ⟨b,off+k*6+3,none⟩=some _:=Zbi (hcc 3 _ rfl) hbb fu
          have g4:(wr.alloc (.cells #[I x.thing,I x.at_,I x.kind,.string x.place,I x.trip.leg,I x.trip.day] 130)).cell? ⟨b,off+k*6+4,none⟩=some _:=Zbi (hcc 4 _ rfl) hbb fu
          have g5:(wr.alloc (.cells #[I x.thing,I x.at_,I x.kind,.string x.place,I x.trip.leg,I x.trip.day] 130)).cell? ⟨b,off+k*6+5,none⟩=some _:=Zbi (hcc 5 _ rfl) hbb fu
          clear hcc
          generalize (wr.alloc (.cells #[I x.thing,I x.at_,I x.kind,.string x.place,I x.trip.leg,I x.trip.day] 130))=w5 at f0 f1 f2 f3 f4 f5 fu fx g0 g1 g2 g3 g4 g5 ⊢
          (have Ef0:=Ups.cell f0; have Ef1:=Ups.cell f1; have Ef2:=Ups.cell f2; have Ef3:=Ups.cell f3; have Ef4:=Ups.cell f4; have Ef5:=Ups.cell f5; have Efx:=Ups.cell fx; have Eg0:=Ups.cell g0; have Eg1:=Ups.cell g1; have Eg2:=Ups.cell g2; have Eg3:=Ups.cell g3; have Eg4:=Ups.cell g4; have Eg5:=Ups.cell g5; refine Zhd (by kernel_rfl) (by kernel_rfl) ?_; (repeat (go_big_quiet_step (fail))); refine wpQuiet_nil ?_; intro wqa hqa; clear Ef0 Ef1 Ef2 Ef3 Ef4 Ef5 Efx Eg0 Eg1 Eg2 Eg3 Eg4 Eg5; replace f0:=Zb3 f0 hqa; replace f1:=Zb3 f1 hqa; replace f2:=Zb3 f2 hqa; replace f3:=Zb3 f3 hqa; replace f4:=Zb3 f4 hqa; replace f5:=Zb3 f5 hqa; replace fx:=Zb3 fx hqa; replace g0:=Zb3 g0 hqa; replace g1:=Zb3 g1 hqa; replace g2:=Zb3 g2 hqa; replace g3:=Zb3 g3 hqa; replace g4:=Zb3 g4 hqa; replace g5:=Zb3 g5 hqa)
          refine Hid.out ?_)
         have hwr5:Up w4 wqa:=Up.step hqa (Up.step fu HWR2.out)
         have hv5:=HV2.out.up (Up.step hqa fu)
         have hs5:w.heap.size+2<wqa.heap.size:=Nat.lt_of_lt_of_le hzr (Nat.le_trans fu.size hqa.size)
         have hs6:w4.heap.size≤wqa.heap.size:=hwr5.size
         have hrd1:Rd (wqa.alloc (.cells #[I x.thing,I x.at_,I x.kind,.string x.place,I x.trip.leg,I x.trip.day] 130)) (wqa.heap.size+1) (some ⟨wqa.heap.size,0,none⟩) [x]:=Rd.one wqa 130 x (wqa.heap.size+1) (by omega)
         have HW5:=Lib.hid hwr5
         have HV5:=Lib.hid hv5
         have HR1:=Lib.hid hrd1
         clear hwr5 hv5 hrd1 hqa fu
         refine Lib.hid ?_
         go_wp2_with (at_builtin; refine ZN Zue rfl (.tmp 53) (.tmp 55) rfl (base:=w4.heap.size) (ys:=ddV ys j) (xs:=[x]) (by rfl) (HV5.out.up (by (repeat (first | exact Up.rfl' _ | (refine Up.al _ ?_) | (refine Up.dr _ ?_) | (refine Up.dr1 ?_) | (refine Up.sc ?_ (by first | exact Nat.le_refl _ | (simp; done) | omega) _) | (refine Up.step (by assumption) ?_))))) 1 (by rfl) rfl HR1.out (by simp only [List.length_cons,List.length_nil]; omega) (by unfold maxLen; simp only [List.length_cons,List.length_nil]; omega) (by simp; omega) ?_; intro v' w6 ho6 hg6 _ hu6; refine Hid.out ?_)
         have hwr6:Up w4 w6:=hu6 _ (by simp) (Up.al _ HW5.out)
         have HO6:=Lib.hid ho6
         have HW6:=Lib.hid hwr6
         clear ho6 hg6 hu6 hwr6
         refine Lib.hid ?_
         go_wp2
         refine ⟨⟨j+1,by go_num,by omega,?_,HW6.out⟩,by simp [intOf]; omega⟩
         rw [HDD.out,if_pos HYES.out]
         exact HO6.out)
    ·have hje:j=N:=by omega
     subst hje
     have hge2:¬ (j:Int)<(j:Int):=by omega
     have hyl2:=HYL.out
     go_wp2
     go_ret
     refine ⟨_,rfl,ys,HP.out,HS.out,?_,Up.step HWR2.out (Up.step HUP.out (Up.al _ (Up.rfl' w)))⟩
     rw [hyl2]
     exact HV2.out.more (by have:=HUP.out.size; simp at this; omega)
end
end Go.Proofs.YtmcdjilbkmhfoaaGreat
namespace Go.Proofs.YtmcdjilbkmhfoaaGreat
set_option maxRecDepth 10000
open Go.RowKit Go.Lib
set_option linter.unusedVariables false
set_option linter.unusedSimpArgs false
def fitB (n:Za):Bool:=decide (n.legs.length≤1048576) && decide (n.off.length≤1048576) && n.legs.all fun l=>decide (l.from_.size≤B60) && decide (l.to_.size≤B60)
theorem Zjj {n:Za}:fitB n=true↔ZV n:=by
 unfold fitB
 simp only [Bool.and_eq_true,decide_eq_true_iff,List.all_eq_true]
 exact ⟨fun h=>⟨h.1.1,h.1.2,fun l hl=>h.2 l hl⟩,fun h=>⟨⟨h.legs,h.off⟩,fun l hl=>h.leg l hl⟩⟩
def Zdz (n:Za) (l:List Zc) (thing:Int) (weight:Int) (way:List Ze):Option ((List Zc) × Bool):=
 if fitB n=true∧l.length≤1048000∧way.length≤1048576 then ZW n l thing weight way else none
theorem arr5 {vs:Array Value} {x0 x1 x2 x3 x4:Value} (h:vs.size=5) (h0:vs[0]?=some x0) (h1:vs[1]?=some x1) (h2:vs[2]?=some x2) (h3:vs[3]?=some x3) (h4:vs[4]?=some x4):vs=#[x0,x1,x2,x3,x4]:=by
 apply Array.ext (by simp [h])
 intro i hi hj
 have a0:=(Array.getElem?_eq_some_iff.1 h0).2
 have a1:=(Array.getElem?_eq_some_iff.1 h1).2
 have a2:=(Array.getElem?_eq_some_iff.1 h2).2
 have a3:=(Array.getElem?_eq_some_iff.1 h3).2
 have a4:=(Array.getElem?_eq_some_iff.1 h4).2
 match i,hi with
 | 0,_=>simpa using a0
 | 1,_=>simpa using a1
 | 2,_=>simpa using a2
 | 3,_=>simpa using a3
 | 4,_=>simpa using a4
 | i+5,hi=>omega
theorem Zj7 (n:Za) (l:List Zc) (thing:Int) (weight:Int) (way:List Ze) {r:(List Zc) × Bool} (H:Zdz n l thing weight way=some r):Zdo Tryz.prog 135 [.ag (Zm n),.sl (l.map Zg),vi thing,vi weight,.sl (way.map Zr)] [] (.tu [.ms 0,vb r.2]) [some ⟨135,4,r.1.map Zg⟩]:=by
 unfold Zdz at H
 split at H
 case isFalse=>cases H
 rename_i hok
 obtain ⟨hf,hln,hwn⟩:=hok
 have hf:=Zjj.1 hf
 intro S β w vs hk hl ha
 obtain ⟨x0,q0,r0⟩:=ha 0 _ rfl
 obtain ⟨x1,q1,r1⟩:=ha 1 _ rfl
 obtain ⟨x2,q2,r2⟩:=ha 2 _ rfl
 obtain ⟨x3,q3,r3⟩:=ha 3 _ rfl
 obtain ⟨x4,q4,r4⟩:=ha 4 _ rfl
 obtain rfl:=arr5 hl q0 q1 q2 q3 q4
 obtain rfl:=ZkW r2
 obtain rfl:=ZkW r3
 obtain ⟨us,rfl,hul,hu1,hur⟩:=r0.ag_inv
 have hul':us.size=3:=hul
 have z0:us[0]?=some us[0]:=Array.getElem?_eq_getElem (by omega)
 have z1:us[1]?=some us[1]:=Array.getElem?_eq_getElem (by omega)
 have z2:us[2]?=some us[2]:=Array.getElem?_eq_getElem (by omega)
 have hus:us=#[us[0],us[1],us[2]]:=ZvF hul' z0 z1 z2
 have w0:=(hur 0 (.sl (n.legs.map cLeg)) _ rfl z0).sl_inv
 have w1:=(hur 1 (.sl (n.off.map cInt)) _ rfl z1).sl_inv
 have w2:=ZkW (hur 2 (vi n.change) _ rfl z2)
 have w3:=r1.sl_inv
 have w4:=r4.sl_inv
 have up:∀ {p:PV} {x:Value},RepC w S p x→RepC w (SW w) p x:=fun h=>h.ext (fun b hb=>hk.sz b hb) fun _ _ _=>rfl
 obtain ⟨A,wn,rfl,_,_,hrd⟩:=ZrC (id:Ze→Ze) (c:=Zr) hk.sz w4
 rw [List.map_id] at hrd
 have hmain:Calls Tryz.prog 135 #[.agg #[us[0],us[1],I n.change],x1,I thing,I weight,.slice A way.length wn] w fun e w'=>∃ v ys ok,e=.returned (.tuple #[v,.bool ok])∧Own w' w.heap.size 135 v ys∧Up w w'∧ZW n l thing weight way=some (ys,ok):=by
  by_cases hno:Z6 n l=true∧way.length≤20
  ·exact Zsn hf hk.tab (up w0) (up w1) hln (up w3) thing weight hwn hrd hno.1 hno.2
  ·refine (Zt9 hf hk.tab (up w0) (up w1) hln (up w3) thing weight hwn hrd hno).mono ?_
   rintro e w' ⟨v,rfl,ho,hu⟩
   refine ⟨v,l,false,rfl,ho,hu,?_⟩
   unfold ZW
   rw [ZfG (by omega),Option.bind_some,Zby hf (by omega),Option.bind_some]
   by_cases hb:Z6 n l=true
   ·rw [hb,decide_eq_true (show 20<(way.length:Int) by
     rcases Nat.lt_or_ge 20 way.length with h | h
     ·omega
     ·exact absurd ⟨hb,h⟩ hno)]; rfl
   ·have hb':Z6 n l=false:=by simpa using hb
    rw [hb']; rfl
 rw [hus,w2]
 refine hmain.mono ?_
 rintro e w' ⟨v,ys,ok,rfl,ho,hu,hsp⟩
 rw [hsp] at H
 obtain rfl:=Option.some.inj H
 obtain ⟨E',h1,h2,h3,h4,h5⟩:=Zj4 (c:=Zg) hk ho hu (fun x=>⟨rfl,fun j p hj=>by
  obtain ⟨u,hu1,hu2⟩:=ZhM.at_ (c:=Zg) (g:=(id:Zc→Zc)) x j p hj
  exact ⟨u,hu1,Enc.one _ u (List.mem_of_getElem? hu1),fun w E=>by rw [hu2]; exact ZhI _ (Enc.one _ u (List.mem_of_getElem? hu1))⟩⟩)
 refine ⟨_,E',rfl,h1,h2,h3,h4,.tu _ _ rfl fun j p x hp hx=>?_⟩
 match j with
 | 0=>obtain rfl:_=p:=Option.some.inj hp
      obtain rfl:_=x:=Option.some.inj hx
      exact h5
 | 1=>obtain rfl:_=p:=Option.some.inj hp
      obtain rfl:_=x:=Option.some.inj hx
      exact ZhI _ rfl
 | j+2=>simp at hp
instance (n:Za) (l:List Zc) (thing:Int) (weight:Int) (way:List Ze):CT Tryz.prog (Zdz n l thing weight way):=⟨135,[.ag (Zm n),.sl (l.map Zg),vi thing,vi weight,.sl (way.map Zr)],[],fun r=>.tu [.ms 0,vb r.2],fun r=>[some ⟨135,4,r.1.map Zg⟩],Zj7 n l thing weight way⟩
end Go.Proofs.YtmcdjilbkmhfoaaGreat
namespace Go.Proofs.YtmcdjilbkmhfoaaGreat
set_option maxRecDepth 10000
open Go.RowKit Go.Lib Go.Sort
set_option linter.unusedVariables false
set_option linter.unusedSimpArgs false
def insC (x:Zj):List Zj→List Zj
 | []=>[x]
 | y::ys=>if scB x y=true then x::y::ys else y::insC x ys
def Zfc:List Zj→List Zj
 | []=>[]
 | x::xs=>insC x (Zfc xs)
abbrev leS (a b:Zj):Prop:=scB b a=false
theorem ZjR (x:Zj):∀ l:List Zj,(insC x l).Perm (x::l)
 | []=>.refl _
 | y::ys=>by
  unfold insC
  split
  ·exact .refl _
  ·exact ((ZjR x ys).cons y).trans (.swap x y ys)
theorem Zhm:∀ l:List Zj,(Zfc l).Perm l
 | []=>.refl _
 | x::xs=>(ZjR x (Zfc xs)).trans ((Zhm xs).cons x)
theorem ZlB {a b:Zj} (h:scB a b=true):scB b a=false:=Go.Sort.SWO.asymmA ZmU h
theorem Zoy (x:Zj):∀ l:List Zj,l.Pairwise leS→(insC x l).Pairwise leS
 | [],_=>by simp [insC]
 | y::ys,h=>by
  obtain ⟨h1,h2⟩:=List.pairwise_cons.1 h
  unfold insC
  by_cases hc:scB x y=true
  ·rw [if_pos hc]
   refine List.pairwise_cons.2 ⟨fun z hz=>?_,h⟩
   rcases List.mem_cons.1 hz with rfl | hz
   ·exact ZlB hc
   ·exact ZmU.ntrans _ _ _ (h1 z hz) (ZlB hc)
  ·rw [if_neg hc]
   refine List.pairwise_cons.2 ⟨fun z hz=>?_,Zoy x ys h2⟩
   rcases List.mem_cons.1 ((ZjR x ys).mem_iff.1 hz) with rfl | hz
   ·simpa using hc
   ·exact h1 z hz
theorem Zkl:∀ l:List Zj,(Zfc l).Pairwise leS
 | []=>.nil
 | x::xs=>Zoy x _ (Zkl xs)
theorem Zvc {a b:Zj} (h1:scB a b=false) (h2:scB b a=false):a=b:=by
 have g1:=(Zkh _ _).1 h1
 have g2:=(Zkh _ _).1 h2
 have e1:cmpS a.place b.place=- cmpS b.place a.place:=ZjC _ _
 unfold scLt at g1 g2
 have hz:cmpS a.place b.place=0:=by omega
 have hp:a.place=b.place:=by
  have:=Zlb hz
  obtain ⟨_,_,_,⟨⟨p⟩⟩,_⟩:=a
  obtain ⟨_,_,_,⟨⟨q⟩⟩,_⟩:=b
  simp only at this ⊢
  rw [this]
 obtain ⟨x1,x2,x3,x4,⟨x5,x6⟩⟩:=a
 obtain ⟨y1,y2,y3,y4,⟨y5,y6⟩⟩:=b
 simp only at g1 g2 hp hz e1
 subst hp
 obtain ⟨rfl,rfl,rfl,rfl,rfl⟩:x1=y1∧x2=y2∧x3=y3∧x5=y5∧x6=y6:=by omega
 rfl
theorem ZmQ {d e:List Zj} (hp:d.Perm e) (hd:d.Pairwise leS) (he:e.Pairwise leS):d=e:=
 List.Perm.eq_of_pairwise (le:=leS) (fun a b _ _ h1 h2=>Zvc h2 h1) hd he hp
def Zcs (n:Za) (l:List Zj):Option (List Zj):=
 if fitB n=true∧l.length≤1048576 then some (ddV (Zfc (ZgM n l)) (Zfc (ZgM n l)).length) else none
theorem arr2 {vs:Array Value} {x0 x1:Value} (h:vs.size=2) (h0:vs[0]?=some x0) (h1:vs[1]?=some x1):vs=#[x0,x1]:=by
 apply Array.ext (by simp [h])
 intro i hi hj
 have a0:=(Array.getElem?_eq_some_iff.1 h0).2
 have a1:=(Array.getElem?_eq_some_iff.1 h1).2
 match i,hi with
 | 0,_=>simpa using a0
 | 1,_=>simpa using a1
 | i+2,hi=>omega
theorem Zix (n:Za) (l:List Zj) {r:List Zj} (H:Zcs n l=some r):Zdo Tryz.prog 220 [.ag (Zm n),.sl (l.map ZF)] [] (.ms 0) [some ⟨130,6,r.map ZF⟩]:=by
 unfold Zcs at H
 split at H
 case isFalse=>cases H
 rename_i hok
 obtain ⟨hf,hln⟩:=hok
 have hf:=Zjj.1 hf
 obtain rfl:=Option.some.inj H
 intro S β w vs hk hl ha
 obtain ⟨x0,q0,r0⟩:=ha 0 _ rfl
 obtain ⟨x1,q1,r1⟩:=ha 1 _ rfl
 obtain rfl:=arr2 hl q0 q1
 obtain ⟨us,rfl,hul,hu1,hur⟩:=r0.ag_inv
 have hul':us.size=3:=hul
 have z0:us[0]?=some us[0]:=Array.getElem?_eq_getElem (by omega)
 have z1:us[1]?=some us[1]:=Array.getElem?_eq_getElem (by omega)
 have z2:us[2]?=some us[2]:=Array.getElem?_eq_getElem (by omega)
 have hus:us=#[us[0],us[1],us[2]]:=ZvF hul' z0 z1 z2
 have w0:=(hur 0 (.sl (n.legs.map cLeg)) _ rfl z0).sl_inv
 have w1:=(hur 1 (.sl (n.off.map cInt)) _ rfl z1).sl_inv
 have w2:=ZkW (hur 2 (vi n.change) _ rfl z2)
 have w4:=r1.sl_inv
 have up:∀ {p:PV} {x:Value},RepC w S p x→RepC w (SW w) p x:=fun h=>h.ext (fun b hb=>hk.sz b hb) fun _ _ _=>rfl
 obtain ⟨A,wn,rfl,hwn,hwm,hrd⟩:=ZrC (id:Zj→Zj) (c:=ZF) hk.sz w4
 rw [List.map_id] at hrd
 rw [hus,w2]
 refine (Zvi hf hk.tab (up w0) (up w1) hln hwn hrd).mono ?_
 rintro e w' ⟨v,ys,rfl,hp,hs,ho,hu⟩
 obtain rfl:=ZmQ (hp.trans (Zhm _).symm) hs (Zkl _)
 obtain ⟨E',h1,h2,h3,h4,h5⟩:=Zj4 (c:=ZF) hk ho hu (fun x=>⟨rfl,fun j p hj=>by
  obtain ⟨u,hu1,hu2⟩:=ZhM.at_ (c:=ZF) (g:=(id:Zj→Zj)) x j p hj
  exact ⟨u,hu1,Enc.one _ u (List.mem_of_getElem? hu1),fun w E=>by rw [hu2]; exact ZhI _ (Enc.one _ u (List.mem_of_getElem? hu1))⟩⟩)
 exact ⟨_,E',rfl,h1,h2,h3,h4,h5⟩
instance (n:Za) (l:List Zj):CT Tryz.prog (Zcs n l):=⟨220,[.ag (Zm n),.sl (l.map ZF)],[],fun r=>.ms 0,fun r=>[some ⟨130,6,r.map ZF⟩],Zix n l⟩
end Go.Proofs.YtmcdjilbkmhfoaaGreat
namespace Go.Proofs.YtmcdjilbkmhfoaaGreat
set_option maxRecDepth 10000
open Go.RowKit
set_option linter.unusedVariables false
set_option maxHeartbeats 16000000
def Zb9 (thing:Int) (y1:List Zj) (s0:Int × (List Zj)):Option ((Int × (List Zj)) ⊕ (List Zj)):=
 cond (decide (s0.1<(y1.length:Int)))
 ((getI y1 s0.1).bind fun y2=>
 cond (decide (y2.thing=thing))
 ((chk (Z1 ((s0.2:List Zj).length+([y2]:List Zj).length) 56)).bind fun _=>
 some (.inl ((w64 (s0.1+1)),((s0.2:List Zj)++[y2]))))
 (some (.inl ((w64 (s0.1+1)),s0.2))))
 (some (.inr s0.2))
instance (thing:Int) (y1:List Zj):ZU (Zb9 thing y1):=⟨fun s0=>(.un::.un::vi thing::(U 4 (.ms 0::(U 5 (.ms 1::vi (y1.length:Int)::vi s0.1::(U 13 [])))))),fun s0=>[some ⟨130,6,s0.2.map ZF⟩,some ⟨130,6,y1.map ZF⟩]⟩
def ZdC (n:Za) (l:List Zj) (thing:Int):Option (List Zj):=
 (Zcs n l).bind fun y1=>
 (Zl (Zb9 thing y1) NN (0,([]:List Zj))).bind (fun o0=>
 some o0)
instance (n:Za) (l:List Zj) (thing:Int):CT Tryz.prog (ZdC n l thing):=⟨153,[.ag (Zm n),.sl (l.map ZF),vi thing],[],fun r=>.ms 0,fun r=>[some ⟨130,6,r.map ZF⟩],fun H=>by replace H:=H0 H; unfold ZdC at H; exact Zh Tryz.func153 rfl Tryz.ntmps153 Tryz.results153 fun Q hQ hQn=>wk3⟩
def Zeq (n:Za) (s:Zj):Option ByteArray:=
 (ZaU n s).bind fun y1=>
 cond (!y1)
 (some (⟨#[]⟩))
 (cond (decide (s.kind=3))
 ((getI n.legs s.trip.leg).bind fun y2=>
 some y2.from_)
 (cond (decide (s.kind=2))
 ((getI n.legs s.trip.leg).bind fun y3=>
 some y3.to_)
 (some s.place)))
instance (n:Za) (s:Zj):CT Tryz.prog (Zeq n s):=⟨255,[.ag (Zm n),.ag (ZF s)],[],fun r=>vs r,fun r=>[],fun H=>by replace H:=H0 H; unfold Zeq at H; exact Zh Tryz.func255 rfl Tryz.ntmps255 Tryz.results255 fun Q hQ hQn=>wk3⟩
def Zy (n:Za) (s:Zj):Option Zeo:=
 (ZaU n s).bind fun y1=>
 cond (!y1)
 (some (⟨⟨#[]⟩,0⟩:Zeo))
 (cond (decide (s.kind=3))
 ((getI n.legs s.trip.leg).bind fun y2=>
 (ZL n s.trip).bind fun y3=>
 some (⟨y2.to_,y3⟩:Zeo))
 ((Zeq n s).bind fun y4=>
 some (⟨y4,s.at_⟩:Zeo)))
instance (n:Za) (s:Zj):CT Tryz.prog (Zy n s):=⟨223,[.ag (Zm n),.ag (ZF s)],[],fun r=>.ag [vs r.place,vi r.at_],fun r=>[],fun H=>by replace H:=H0 H; unfold Zy at H; exact Zh Tryz.func223 rfl Tryz.ntmps223 Tryz.results223 fun Q hQ hQn=>wk3⟩
def ZC (n:Za) (s:Zj):Option Zeo:=
 (ZaU n s).bind fun y1=>
 cond (!y1)
 (some (⟨⟨#[]⟩,0⟩:Zeo))
 (cond (decide (s.kind=3))
 ((getI n.legs s.trip.leg).bind fun y2=>
 (ZI n s.trip).bind fun y3=>
 some (⟨y2.from_,y3⟩:Zeo))
 (cond (decide (s.kind=2))
 ((getI n.legs s.trip.leg).bind fun y4=>
 (ZI n s.trip).bind fun y5=>
 some (⟨y4.from_,y5⟩:Zeo))
 (some (⟨s.place,s.at_⟩:Zeo))))
instance (n:Za) (s:Zj):CT Tryz.prog (ZC n s):=⟨224,[.ag (Zm n),.ag (ZF s)],[],fun r=>.ag [vs r.place,vi r.at_],fun r=>[],fun H=>by replace H:=H0 H; unfold ZC at H; exact Zh Tryz.func224 rfl Tryz.ntmps224 Tryz.results224 fun Q hQ hQn=>wk3⟩
def Zff (n:Za) (leg:Int) (at2_:Int) (s0:Int):Option (Int ⊕ (Unit ⊕ (Ze × Bool))):=
 cond (decide (s0≤60))
 ((Zdk n leg s0).bind fun y1=>
 cond y1
 ((ZI n (⟨leg,s0⟩:Ze)).bind fun y2=>
 cond (decide (at2_≤y2))
 (some (.inr (.inr ((⟨leg,s0⟩:Ze),true))))
 (some (.inl (w64 (s0+1)))))
 (some (.inl (w64 (s0+1)))))
 (some (.inr (.inl ())))
instance (n:Za) (leg:Int) (at2_:Int):ZU (Zff n leg at2_):=⟨fun s0=>(.un::vi leg::vi at2_::.be 0 0 0::.un::.un::.be 1 0 0::.un::vi s0::(U 21 [])),fun s0=>[some ⟨35,3,[[.sl (n.legs.map cLeg),.sl (n.off.map cInt),vi n.change]]⟩,some ⟨55,2,[[vi 0,vi 0]]⟩]⟩
def ZgE (n:Za) (leg:Int) (at2_:Int):Option (Ze × Bool):=
 (Zl (Zff n leg at2_) NN 0).bind (ZX (fun o0=>
 some ((⟨0,0⟩:Ze),false)) (fun r=>some r))
instance (n:Za) (leg:Int) (at2_:Int):CT Tryz.prog (ZgE n leg at2_):=⟨219,[.ag (Zm n),vi leg,vi at2_],[],fun r=>.tu [.ag [vi r.1.leg,vi r.1.day],vb r.2],fun r=>[],fun H=>by replace H:=H0 H; unfold ZgE at H; exact Zh Tryz.func219 rfl Tryz.ntmps219 Tryz.results219 fun Q hQ hQn=>wk3⟩
def ZdT (leg:Int) (at1_:Int) (c0_:Za):Option (Ze × Bool):=
 (ZgE c0_ leg at1_).bind fun y1=>
 some (y1.1,y1.2)
instance (leg:Int) (at1_:Int) (c0_:Za):CT Tryz.prog (ZdT leg at1_ c0_):=⟨218,[vi leg,vi at1_,.rp [.sl (c0_.legs.map cLeg),.sl (c0_.off.map cInt),vi c0_.change]],[],fun r=>.tu [.ag [vi r.1.leg,vi r.1.day],vb r.2],fun r=>[],fun H=>by replace H:=H0 H; unfold ZdT at H; exact Zh Tryz.func218 rfl Tryz.ntmps218 Tryz.results218 fun Q hQ hQn=>wk3⟩
def ZcL (n:Za) (at1_:Int) (start:Bool):Option Int:=
 cond start
 (some at1_)
 (some (w64 (at1_+n.change)))
instance (n:Za) (at1_:Int) (start:Bool):CT Tryz.prog (ZcL n at1_ start):=⟨252,[.ag (Zm n),vi at1_,vb start],[],fun r=>vi r,fun r=>[],fun H=>by replace H:=H0 H; unfold ZcL at H; exact Zh Tryz.func252 rfl Tryz.ntmps252 Tryz.results252 fun Q hQ hQn=>wk3⟩
def ZdE (n:Za) (find0_:Za) (at3_:Int) (legs:Int) (y1:List ByteArray) (y2:Int) (s0:Int × (List Int)):Option ((Int × (List Int)) ⊕ (List Int)):=
 cond (decide (s0.1<(y1.length:Int)))
 ((chk (Z1 ((s0.2:List Int).length+([(-1)]:List Int).length) 8)).bind fun _=>
 some (.inl ((w64 (s0.1+1)),((s0.2:List Int)++[(-1)]))))
 (some (.inr s0.2))
instance (n:Za) (find0_:Za) (at3_:Int) (legs:Int) (y1:List ByteArray) (y2:Int):ZU (ZdE n find0_ at3_ legs y1 y2):=⟨fun s0=>(.un::.fn 218 [.rp [.sl (find0_.legs.map cLeg),.sl (find0_.off.map cInt),vi find0_.change]]::.un::vi at3_::vi legs::.be 0 0 0::(U 5 (.ms 1::vi y2::.ms 2::(U 26 (vi (y1.length:Int)::vi s0.1::(U 83 [])))))),fun s0=>[some ⟨35,3,[[.sl (n.legs.map cLeg),.sl (n.off.map cInt),vi n.change]]⟩,some ⟨9,1,y1.map cStr⟩,some ⟨3,1,s0.2.map cInt⟩]⟩
def Zcm (n:Za) (find0_:Za) (legs:Int) (y1:List ByteArray) (y2:Int) (s1:Int × (List Int)) (s2:Int × Bool × (List Int)):Option ((Int × Bool × (List Int)) ⊕ (Bool × (List Int))):=
 cond (decide (s2.1<(n.legs.length:Int)))
 ((getI n.legs s2.1).bind fun y4=>
 (Zu y1 y4.from_).bind fun y5=>
 (Zu y1 y4.to_).bind fun y6=>
 (getI s1.2 y5).bind fun y7=>
 cond (decide (y7<0))
 (some (.inl ((w64 (s2.1+1)),s2.2.1,s2.2.2)))
 ((getI s1.2 y5).bind fun y8=>
 (ZcL n y8 (decide (y5=y2))).bind fun y9=>
 (ZdT s2.1 y9 find0_).bind fun y10=>
 cond y10.2
 ((getI s2.2.2 y6).bind fun y11=>
 cond (decide (y11<0))
 ((ZL n y10.1).bind fun y12=>
 (getI s2.2.2 y6).bind fun y13=>
 some (.inl ((w64 (s2.1+1)),true,(s2.2.2.set (Int.toNat y6) y12))))
 ((ZL n y10.1).bind fun y14=>
 (getI s2.2.2 y6).bind fun y15=>
 cond (decide (y14<y15))
 ((ZL n y10.1).bind fun y16=>
 (getI s2.2.2 y6).bind fun y17=>
 some (.inl ((w64 (s2.1+1)),true,(s2.2.2.set (Int.toNat y6) y16))))
 (some (.inl ((w64 (s2.1+1)),s2.2.1,s2.2.2)))))
 (some (.inl ((w64 (s2.1+1)),s2.2.1,s2.2.2)))))
 (some (.inr (s2.2.1,s2.2.2)))
instance (n:Za) (find0_:Za) (legs:Int) (y1:List ByteArray) (y2:Int) (s1:Int × (List Int)):ZU (Zcm n find0_ legs y1 y2 s1):=⟨fun s2=>(.un::.fn 218 [.rp [.sl (find0_.legs.map cLeg),.sl (find0_.off.map cInt),vi find0_.change]]::.un::.un::vi legs::.be 0 0 0::(U 5 (.ms 1::vi y2::.ms 2::vi s1.1::.ms 3::vb s2.2.1::(U 44 (.sl (n.legs.map cLeg)::vi (n.legs.length:Int)::vi s2.1::(U 61 [])))))),fun s2=>[some ⟨35,3,[[.sl (n.legs.map cLeg),.sl (n.off.map cInt),vi n.change]]⟩,some ⟨9,1,y1.map cStr⟩,some ⟨3,1,s1.2.map cInt⟩,some ⟨3,1,s2.2.2.map cInt⟩]⟩
def Zcl (n:Za) (find0_:Za) (legs:Int) (y1:List ByteArray) (y2:Int) (s1:Int × (List Int)):Option ((Int × (List Int)) ⊕ (List Int)):=
 cond (decide (s1.1<legs))
 ((chk (Z1 ((([]:List Int):List Int).length+(s1.2:List Int).length) 8)).bind fun _=>
 (Zl (Zcm n find0_ legs y1 y2 s1) NN (0,false,((([]:List Int):List Int)++s1.2))).bind (fun o2=>
 cond (!o2.1)
 (some (.inr o2.2))
 (some (.inl ((w64 (s1.1+1)),o2.2)))))
 (some (.inr s1.2))
instance (n:Za) (find0_:Za) (legs:Int) (y1:List ByteArray) (y2:Int):ZU (Zcl n find0_ legs y1 y2):=⟨fun s1=>(.un::.fn 218 [.rp [.sl (find0_.legs.map cLeg),.sl (find0_.off.map cInt),vi find0_.change]]::.un::.un::vi legs::.be 0 0 0::(U 5 (.ms 1::vi y2::.ms 2::vi s1.1::(U 110 [])))),fun s1=>[some ⟨35,3,[[.sl (n.legs.map cLeg),.sl (n.off.map cInt),vi n.change]]⟩,some ⟨9,1,y1.map cStr⟩,some ⟨3,1,s1.2.map cInt⟩]⟩
def Zch (n:Za) (find0_:Za) (from2_:ByteArray) (at3_:Int) (legs:Int):Option (List Int):=
 (ZR n).bind fun y1=>
 (Zu y1 from2_).bind fun y2=>
 cond (decide (y2<0))
 (some ([]))
 (cond (decide (100000<at3_))
 (some ([]))
 (cond (decide (legs<0))
 (some ([]))
 ((Zl (ZdE n find0_ at3_ legs y1 y2) NN (0,([]:List Int))).bind (fun o0=>
 (getI o0 y2).bind fun y3=>
 (Zl (Zcl n find0_ legs y1 y2) NN (0,(o0.set (Int.toNat y2) (if 0 > at3_ then 0 else at3_)))).bind (fun o1=>
 some o1)))))
instance (n:Za) (find0_:Za) (from2_:ByteArray) (at3_:Int) (legs:Int):CT Tryz.prog (Zch n find0_ from2_ at3_ legs):=⟨216,[.ag (Zm n),.fn 218 [.rp [.sl (find0_.legs.map cLeg),.sl (find0_.off.map cInt),vi find0_.change]],vs from2_,vi at3_,vi legs],[],fun r=>.ms 0,fun r=>[some ⟨3,1,r.map cInt⟩],fun H=>by replace H:=H0 H; unfold Zch at H; exact Zh Tryz.func216 rfl Tryz.ntmps216 Tryz.results216 fun Q hQ hQn=>wk3⟩
def ZfE (n:Za):Option Za:=
 some (n)
instance (n:Za):CT Tryz.prog (ZfE n):=⟨152,[.ag (Zm n)],[],fun r=>.fn 218 [.rp [.sl (r.legs.map cLeg),.sl (r.off.map cInt),vi r.change]],fun r=>[],fun H=>by replace H:=H0 H; unfold ZfE at H; exact Zh Tryz.func152 rfl Tryz.ntmps152 Tryz.results152 fun Q hQ hQn=>wk3⟩
def Zdh (n:Za) (from1_:ByteArray) (at2_:Int) (legs:Int):Option (List Int):=
 (ZY n).bind fun y1=>
 cond (!y1)
 (some ([]))
 ((ZfE n).bind fun y2=>
 (Zch n y2 from1_ at2_ legs).bind fun y3=>
 some y3)
instance (n:Za) (from1_:ByteArray) (at2_:Int) (legs:Int):CT Tryz.prog (Zdh n from1_ at2_ legs):=⟨245,[.ag (Zm n),vs from1_,vi at2_,vi legs],[],fun r=>.ms 0,fun r=>[some ⟨3,1,r.map cInt⟩],fun H=>by replace H:=H0 H; unfold Zdh at H; exact Zh Tryz.func245 rfl Tryz.ntmps245 Tryz.results245 fun Q hQ hQn=>wk3⟩
def Za1 (n:Za) (from1_:ByteArray) (to_:ByteArray) (at3_:Int):Option Int:=
 (ZR n).bind fun y1=>
 (Zdh n from1_ at3_ (y1.length:Int)).bind fun y2=>
 (Zu y1 to_).bind fun y3=>
 cond (decide (y3<0))
 (some (-1))
 (cond (decide ((y2.length:Int)=0))
 (some (-1))
 ((getI y2 y3).bind fun y4=>
 some y4))
instance (n:Za) (from1_:ByteArray) (to_:ByteArray) (at3_:Int):CT Tryz.prog (Za1 n from1_ to_ at3_):=⟨203,[.ag (Zm n),vs from1_,vs to_,vi at3_],[],fun r=>vi r,fun r=>[],fun H=>by replace H:=H0 H; unfold Za1 at H; exact Zh Tryz.func203 rfl Tryz.ntmps203 Tryz.results203 fun Q hQ hQn=>wk3⟩
def ZbX (n:Za) (a:Zeo) (b:Zeo):Option Bool:=
 cond (decide (a.place=b.place))
 (some (decide (a.at_≤b.at_)))
 ((Za1 n a.place b.place a.at_).bind fun y1=>
 cond (!decide (y1=(-1)))
 (some (decide (y1≤b.at_)))
 (some false))
instance (n:Za) (a:Zeo) (b:Zeo):CT Tryz.prog (ZbX n a b):=⟨222,[.ag (Zm n),.ag (ZvG a),.ag (ZvG b)],[],fun r=>vb r,fun r=>[],fun H=>by replace H:=H0 H; unfold ZbX at H; exact Zh Tryz.func222 rfl Tryz.ntmps222 Tryz.results222 fun Q hQ hQn=>wk3⟩
def ZaG (n:Za) (a:Zj) (b:Zj):Option Bool:=
 (ZaU n a).bind fun y1=>
 cond (!y1)
 (some false)
 ((ZaU n b).bind fun y2=>
 cond (!y2)
 (some false)
 (cond (!decide (a.thing=b.thing))
 (some false)
 ((Zbm a b).bind fun y3=>
 cond (decide (0≤y3))
 (some false)
 (cond (decide (a.kind=4))
 (some false)
 (cond (decide (b.kind=2))
 (cond (decide (a.kind=3))
 (cond (decide (a.trip=b.trip))
 (some true)
 ((Zy n a).bind fun y4=>
 (ZC n b).bind fun y5=>
 (ZbX n y4 y5).bind fun y6=>
 some y6))
 ((Zy n a).bind fun y7=>
 (ZC n b).bind fun y8=>
 (ZbX n y7 y8).bind fun y9=>
 some y9))
 ((Zy n a).bind fun y10=>
 (ZC n b).bind fun y11=>
 (ZbX n y10 y11).bind fun y12=>
 some y12))))))
instance (n:Za) (a:Zj) (b:Zj):CT Tryz.prog (ZaG n a b):=⟨154,[.ag (Zm n),.ag (ZF a),.ag (ZF b)],[],fun r=>vb r,fun r=>[],fun H=>by replace H:=H0 H; unfold ZaG at H; exact Zh Tryz.func154 rfl Tryz.ntmps154 Tryz.results154 fun Q hQ hQn=>wk3⟩
def Zb7 (n:Za) (y1:(List Zj)) (s0:Int × (List Int)):Option ((Int × (List Int)) ⊕ (List Int)):=
 cond (decide (s0.1<(y1.length:Int)))
 ((getI y1 (w64 (s0.1-1))).bind fun y2=>
 (getI y1 s0.1).bind fun y3=>
 (ZaG n y2 y3).bind fun y4=>
 cond (!y4)
 ((chk (Z1 ((s0.2:List Int).length+([s0.1]:List Int).length) 8)).bind fun _=>
 some (.inl ((w64 (s0.1+1)),((s0.2:List Int)++[s0.1]))))
 (some (.inl ((w64 (s0.1+1)),s0.2))))
 (some (.inr s0.2))
instance (n:Za) (y1:(List Zj)):ZU (Zb7 n y1):=⟨fun s0=>(U 3 (.be 0 0 0::(U 3 (.ms 1::.ms 2::vi s0.1::(U 28 []))))),fun s0=>[some ⟨35,3,[[.sl (n.legs.map cLeg),.sl (n.off.map cInt),vi n.change]]⟩,some ⟨3,1,s0.2.map cInt⟩,some ⟨130,6,y1.map ZF⟩]⟩
def ZcJ (n:Za) (l:List Zj) (thing:Int):Option (List Int):=
 (ZdC n l thing).bind fun y1=>
 (Zl (Zb7 n y1) NN (1,([]:List Int))).bind (fun o0=>
 some o0)
instance (n:Za) (l:List Zj) (thing:Int):CT Tryz.prog (ZcJ n l thing):=⟨61,[.ag (Zm n),.sl (l.map ZF),vi thing],[],fun r=>.ms 0,fun r=>[some ⟨3,1,r.map cInt⟩],fun H=>by replace H:=H0 H; unfold ZcJ at H; exact Zh Tryz.func61 rfl Tryz.ntmps61 Tryz.results61 fun Q hQ hQn=>wk3⟩
def Zb8 (n:Za) (y1:(List Zj)) (s0:Int × (List Zj)):Option ((Int × (List Zj)) ⊕ (List Zj)):=
 cond (decide (s0.1<(y1.length:Int)))
 ((getI y1 s0.1).bind fun y2=>
 cond (decide ((s0.2.length:Int)=0))
 ((chk (Z1 ((s0.2:List Zj).length+([y2]:List Zj).length) 56)).bind fun _=>
 some (.inl ((w64 (s0.1+1)),((s0.2:List Zj)++[y2]))))
 ((getI s0.2 (w64 ((s0.2.length:Int)-1))).bind fun y3=>
 (ZaG n y3 y2).bind fun y4=>
 cond y4
 ((chk (Z1 ((s0.2:List Zj).length+([y2]:List Zj).length) 56)).bind fun _=>
 some (.inl ((w64 (s0.1+1)),((s0.2:List Zj)++[y2]))))
 (some (.inl ((w64 (s0.1+1)),s0.2)))))
 (some (.inr s0.2))
instance (n:Za) (y1:(List Zj)):ZU (Zb8 n y1):=⟨fun s0=>(U 3 (.be 0 0 0::(U 3 (.ms 1::(U 6 (.ms 2::vi (y1.length:Int)::vi s0.1::(U 23 []))))))),fun s0=>[some ⟨35,3,[[.sl (n.legs.map cLeg),.sl (n.off.map cInt),vi n.change]]⟩,some ⟨130,6,s0.2.map ZF⟩,some ⟨130,6,y1.map ZF⟩]⟩
def ZdA (n:Za) (l:List Zj) (thing:Int):Option (List Zj):=
 (ZdC n l thing).bind fun y1=>
 (Zl (Zb8 n y1) NN (0,([]:List Zj))).bind (fun o0=>
 some o0)
instance (n:Za) (l:List Zj) (thing:Int):CT Tryz.prog (ZdA n l thing):=⟨210,[.ag (Zm n),.sl (l.map ZF),vi thing],[],fun r=>.ms 0,fun r=>[some ⟨130,6,r.map ZF⟩],fun H=>by replace H:=H0 H; unfold ZdA at H; exact Zh Tryz.func210 rfl Tryz.ntmps210 Tryz.results210 fun Q hQ hQn=>wk3⟩
end Go.Proofs.YtmcdjilbkmhfoaaGreat
namespace Go.Proofs.YtmcdjilbkmhfoaaGreat
set_option maxRecDepth 10000
open Go.RowKit
set_option linter.unusedVariables false
set_option linter.unusedSimpArgs false
theorem Zqx {ys:List Zj} (hn:ys.Nodup):∀ k,k≤ys.length→ddV ys k=ys.take k
 | 0,_=>rfl
 | k+1,hk=>by
  have hlt:k<ys.length:=by omega
  rw [Zqy ys k hlt,Zqx hn k (by omega),if_pos ?_,List.take_succ_eq_append_getElem hlt]
  by_cases h0:k=0
  ·exact .inl h0
  ·refine .inr fun e=>?_
   have h1:k-1<ys.length:=by omega
   rw [List.getElem?_eq_getElem h1] at e
   exact List.pairwise_iff_getElem.1 hn (k-1) k h1 hlt (by omega) (Option.some.inj e)
structure ZiG (n:Za) (l:List Zj):Prop where
 len:l.length≤200
 ok:∀ s∈l,okS1 n s=true
 nodup:l.Nodup
theorem ZnQ {n:Za} (hf:ZV n) {l:List Zj} (h:ZiG n l):Zcs n l=some (Zfc l):=by
 have hv:ZgM n l=l:=by
  unfold ZgM
  rw [List.take_of_length_le h.len,List.filter_eq_self]
  exact h.ok
 have hp:=Zhm l
 unfold Zcs
 rw [if_pos ⟨Zjj.2 hf,by have:=h.len; omega⟩,hv,Zqx (hp.symm.nodup h.nodup) _ (Nat.le_refl _),List.take_length]
def ofT (th:Int) (l:List Zj):List Zj:=l.filter fun s=>decide (s.thing=th)
theorem Zv3 {a b:Zj} (h:scLt a b):leS a b:=ZlB ((Zkg _ _).2 h)
theorem ZmH {n:Za} (hf:ZV n) {l:List Zj} (h:ZiG n l) {th:Int} (hs:(ofT th l).Pairwise scLt):ZdC n l th=some (ofT th l):=by
 have hp:=Zhm l
 have hlen:(Zfc l).length≤200:=by rw [hp.length_eq]; exact h.len
 have heq:ofT th (Zfc l)=ofT th l:=ZmQ (hp.filter _) (List.Pairwise.sublist List.filter_sublist (Zkl l)) (hs.imp fun h=>Zv3 h)
 have e:Zl (Zb9 th (Zfc l)) NN (0,[])=some (ofT th (Zfc l)):=by
  refine ZdJ (body:=Zb9 th (Zfc l)) (fun i:Nat=>((i:Int),ofT th ((Zfc l).take i))) (n:=(Zfc l).length) (o:=ofT th (Zfc l)) (fun i hi=>?_) ?_ NN (by unfold NN; omega)
  ·have hg:getI (Zfc l) (i:Int)=some (Zfc l)[i]:=by rw [Zq]; exact List.getElem?_eq_getElem hi
   have hw:w64 ((i:Int)+1)=((i+1:Nat):Int):=Z9 hi (by omega)
   have hfl:(ofT th ((Zfc l).take i)).length≤200:=Nat.le_trans (List.length_filter_le _ _) (by rw [List.length_take]; omega)
   have ha:chk (Z1 ((ofT th ((Zfc l).take i)).length+([(Zfc l)[i]]:List Zj).length) 56)=some ():=ZeD (by simp only [List.length_cons,List.length_nil]; omega) (by omega)
   unfold Zb9
   simp only [decide_eq_true (show (i:Int)<(Zfc l).length by omega),cond_true,hg,Option.bind_some,hw,ha]
   have hs:ofT th ((Zfc l).take (i+1))=ofT th ((Zfc l).take i)++(if (Zfc l)[i].thing=th then [(Zfc l)[i]] else []):=by
    unfold ofT
    rw [List.take_succ_eq_append_getElem hi,List.filter_append]
    by_cases h:(Zfc l)[i].thing=th <;> simp [h]
   rw [hs]
   by_cases h:(Zfc l)[i].thing=th
   ·rw [decide_eq_true h,if_pos h]; rfl
   ·rw [decide_eq_false h,if_neg h,List.append_nil]; rfl
  ·unfold Zb9
   simp [List.take_length]
 unfold ZdC
 rw [ZnQ hf h,Option.bind_some,e,heq]
 rfl
def Zii (n:Za) (T:List Zj):Prop:=∀ (i:Nat) (a b:Zj),T[i]?=some a→T[i+1]?=some b→ZaG n a b=some true
theorem Zqr {n:Za} (hf:ZV n) {l:List Zj} (h:ZiG n l) {th:Int} (hs:(ofT th l).Pairwise scLt) (hF:Zii n (ofT th l)):ZcJ n l th=some []:=by
 have hfl:(ofT th l).length≤200:=Nat.le_trans (List.length_filter_le _ _) h.len
 generalize hT:ofT th l=T at hs hF hfl
 have e:Zl (Zb7 n T) NN (1,[])=some []:=by
  have:=ZdJ (body:=Zb7 n T) (fun i:Nat=>(((i+1:Nat):Int),([]:List Int))) (n:=T.length-1) (o:=[]) (fun i hi=>?_) ?_ NN (by unfold NN; omega)
  ·exact this
  ·have h1:i<T.length:=by omega
   have h2:i+1<T.length:=by omega
   have w1:w64 (((i+1:Nat):Int)-1)=(i:Int):=by rw [Zp (by omega)]; omega
   have w2:w64 (((i+1:Nat):Int)+1)=((i+1+1:Nat):Int):=by rw [Zp (by omega)]; omega
   have g1:getI T (i:Int)=some T[i]:=by rw [Zq]; exact List.getElem?_eq_getElem h1
   have g2:getI T ((i+1:Nat):Int)=some T[i+1]:=by rw [Zq]; exact List.getElem?_eq_getElem h2
   unfold Zb7
   simp only [decide_eq_true (show ((i+1:Nat):Int)<T.length by omega),cond_true,w1,g1,g2,Option.bind_some,hF i _ _ (List.getElem?_eq_getElem h1) (List.getElem?_eq_getElem h2),Bool.not_true,cond_false,w2]
  ·unfold Zb7
   simp only [decide_eq_false (show ¬ (((T.length-1+1:Nat):Int)<(T.length:Int)) by omega),cond_false]
 unfold ZcJ
 rw [ZmH hf h (by rw [hT]; exact hs),hT,Option.bind_some,e]
 rfl
theorem ZlZ {n:Za} (hf:ZV n) {l:List Zj} (h:ZiG n l) {th:Int} (hs:(ofT th l).Pairwise scLt) (hF:Zii n (ofT th l)):ZdA n l th=some (ofT th l):=by
 have hfl:(ofT th l).length≤200:=Nat.le_trans (List.length_filter_le _ _) h.len
 generalize hT:ofT th l=T at hs hF hfl
 have e:Zl (Zb8 n T) NN (0,[])=some T:=by
  refine ZdJ (body:=Zb8 n T) (fun i:Nat=>((i:Int),T.take i)) (n:=T.length) (o:=T) (fun i hi=>?_) ?_ NN (by unfold NN; omega)
  ·have hg:getI T (i:Int)=some T[i]:=by rw [Zq]; exact List.getElem?_eq_getElem hi
   have hw:w64 ((i:Int)+1)=((i+1:Nat):Int):=Z9 hi (by omega)
   have htl:(T.take i).length=i:=by rw [List.length_take]; omega
   have ha:chk (Z1 ((T.take i).length+([T[i]]:List Zj).length) 56)=some ():=ZeD (by simp only [List.length_cons,List.length_nil]; omega) (by omega)
   rw [htl] at ha
   unfold Zb8
   simp only [decide_eq_true (show (i:Int)<T.length by omega),cond_true,hg,Option.bind_some,hw,htl]
   rw [List.take_succ_eq_append_getElem hi]
   by_cases h0:i=0
   ·rw [decide_eq_true (show (i:Int)=0 by omega),cond_true,ha]; rfl
   ·rw [decide_eq_false (show ¬ (i:Int)=0 by omega),cond_false]
    have w1:w64 ((i:Int)-1)=((i-1:Nat):Int):=by rw [Zp (by omega)]; omega
    have h1:i-1<T.length:=by omega
    have g1:getI (T.take i) ((i-1:Nat):Int)=some T[i-1]:=by rw [Zq,List.getElem?_take_of_lt (by omega)]; exact List.getElem?_eq_getElem h1
    have hc:=hF (i-1) T[i-1] T[i] (List.getElem?_eq_getElem h1) (by rw [show i-1+1=i by omega]; exact List.getElem?_eq_getElem hi)
    rw [w1,g1,Option.bind_some,hc,Option.bind_some,cond_true,ha]
    rfl
  ·unfold Zb8
   simp [List.take_length]
 unfold ZdA
 rw [ZmH hf h (by rw [hT]; exact hs),hT,Option.bind_some,e]
 rfl
end Go.Proofs.YtmcdjilbkmhfoaaGreat
namespace Go.Proofs.YtmcdjilbkmhfoaaGreat
set_option maxRecDepth 10000
open Go.RowKit
set_option linter.unusedVariables false
set_option linter.unusedSimpArgs false
theorem Zjk:∀ (l:List Zj) (p:List Zj × Int),p.2=(p.1.length:Int)→p.1.length+l.length≤200→l.foldl (Zdd []) p=(p.1++l,p.2+(l.length:Int))
 | [],p,h,_=>by simp
 | s::l,p,h,hl=>by
  rw [List.length_cons] at hl
  have h1:Zdd [] p s=(p.1++[s],p.2+1):=by
   unfold Zdd
   simp only [List.any_nil,true_and]
   rw [if_pos (show p.2<1000000000 by omega),if_pos (show p.1.length<200 by omega)]
  rw [List.foldl_cons,h1,Zjk l (p.1++[s],p.2+1) (by simp only [List.length_append,List.length_cons,List.length_nil]; omega) (by simp only [List.length_append,List.length_cons,List.length_nil]; omega)]
  simp only [List.append_assoc,List.singleton_append,List.length_cons,Prod.mk.injEq,true_and]
  omega
theorem Zgo (th:Int) (l l':List Zj):ofT th (l++l')=ofT th l++ofT th l':=by unfold ofT; exact List.filter_append _ _
theorem Zh6 {th:Int} {l:List Zj} (h:∀ s∈l,¬ s.thing=th):ofT th l=[]:=by
 unfold ofT
 rw [List.filter_eq_nil_iff]
 exact fun s hs=>by simpa using h s hs
theorem Zre {th:Int} {l:List Zj} (h:∀ s∈l,s.thing=th):ofT th l=l:=by
 unfold ofT
 rw [List.filter_eq_self]
 exact fun s hs=>by simpa using h s hs
theorem ZhH {f:Nat→Zf→List Zj} (hf:∀ j o,∀ s∈f j o,s.thing=((j+1:Nat):Int)):∀ (os:List Zf) (b i:Nat) (o:Zf),os[i]?=some o→ofT ((b+i+1:Nat):Int) (ZdH f b os)=f (b+i) o
 | [],b,i,o,h=>by simp at h
 | x::os,b,0,o,h=>by
  obtain rfl:x=o:=by simpa using h
  unfold ZdH
  rw [Zgo,Zre (fun s hs=>hf b x s hs),Zh6 (l:=ZdH f (b+1) os) (fun s hs=>?_),List.append_nil]
  ·rfl
  ·obtain ⟨j,o',_,h2⟩:=Zfb hs
   rw [hf _ _ s h2]
   omega
 | x::os,b,i+1,o,h=>by
  have h':os[i]?=some o:=by simpa using h
  unfold ZdH
  rw [Zgo,Zh6 (l:=f b x) (fun s hs=>by rw [hf b x s hs]; omega),List.nil_append]
  have:=ZhH hf os (b+1) i o h'
  rw [show b+(i+1)=b+1+i by omega]
  exact this
theorem ZjG {n:Za} {a:Int}:∀ (j:Nat) (o:Zf),∀ s∈Zbz n a j o,s.thing=((j+1:Nat):Int):=fun j o s hs=>by
 unfold Zbz at hs
 split at hs
 ·split at hs
  ·rcases List.mem_cons.1 hs with rfl | hs
   ·rfl
   ·split at hs
    ·obtain rfl:=List.mem_singleton.1 hs; rfl
    ·cases hs
  ·cases hs
 ·cases hs
theorem ZjY {n:Za} {a:Int}:∀ (j:Nat) (o:Zf),∀ s∈Zep n a j o,s.thing=((j+1:Nat):Int):=fun j o s hs=>by
 unfold Zep at hs
 split at hs
 ·split at hs
  ·obtain rfl:=List.mem_singleton.1 hs; rfl
  ·cases hs
 ·cases hs
end Go.Proofs.YtmcdjilbkmhfoaaGreat
namespace Go.Proofs.YtmcdjilbkmhfoaaGreat
set_option maxRecDepth 10000
open Go.RowKit
set_option linter.unusedVariables false
set_option linter.unusedSimpArgs false
structure Zp4 (w:Zd):Prop where
 skip:w.skip=[]
 made:w.made=(w.scans.length:Int)
 own:∀ (i:Nat) (o:Zf),w.orders[i]?=some o→ofT ((i+1:Nat):Int) w.scans=ZbW w.network i o
theorem Znw {w:Zd} {a:Int} (h:WOk w) (hs:Zp4 w) (hroom:w.scans.length+(ZeM w a).length≤200):Zp4 (Zav w a):=by
 have hf:=Zjk (ZeM w a) (w.scans,w.made) hs.made hroom
 have hsc:(Zav w a).scans=w.scans++ZeM w a:=by
  show ((ZeM w a).foldl (Zdd w.skip) (w.scans,w.made)).1=_
  rw [hs.skip,hf]
 have hmd:(Zav w a).made=w.made+((ZeM w a).length:Int):=by
  show ((ZeM w a).foldl (Zdd w.skip) (w.scans,w.made)).2=_
  rw [hs.skip,hf]
 refine ⟨hs.skip,?_,fun i o' ho'=>?_⟩
 ·rw [hmd,hsc,hs.made,List.length_append]; omega
 ·have ho2:(w.orders.map (ZdI w.network a))[i]?=some o':=ho'
  rw [List.getElem?_map] at ho2
  obtain ⟨o,ho,rfl⟩:=Option.map_eq_some_iff.1 ho2
  have e1:=ZhH (f:=Zbz w.network a) ZjG w.orders 0 i o ho
  have e2:=ZhH (f:=Zep w.network a) ZjY (w.orders.map (ZJ w.network a)) 0 i (ZJ w.network a o) (by rw [List.getElem?_map,ho]; rfl)
  simp only [Nat.zero_add] at e1 e2
  rw [hsc,Zgo,hs.own i o ho]
  unfold ZeM
  rw [Zgo,e1,e2]
  show _=ZbW w.network i (ZdI w.network a o)
  unfold ZdI
  rw [ZmI,Zki (h.way ho).gone.1,List.append_assoc]
end Go.Proofs.YtmcdjilbkmhfoaaGreat
namespace Go.Proofs.YtmcdjilbkmhfoaaGreat
set_option maxRecDepth 10000
open Go.RowKit
set_option linter.unusedVariables false
set_option linter.unusedSimpArgs false
def sumI (f:Nat→Zf→Nat):Nat→List Zf→Nat
 | _,[]=>0
 | i,o::os=>f i o+sumI f (i+1) os
theorem ZhJ (f:Nat→Zf→List Zj):∀ (os:List Zf) (b:Nat),(ZdH f b os).length=sumI (fun j o=>(f j o).length) b os
 | [],_=>rfl
 | o::os,b=>by unfold ZdH sumI; rw [List.length_append,ZhJ f os (b+1)]
theorem Zjt (f:Nat→Zf→Nat) (g:Zf→Zf):∀ (os:List Zf) (b:Nat),sumI f b (os.map g)=sumI (fun j o=>f j (g o)) b os
 | [],_=>rfl
 | o::os,b=>by unfold sumI; rw [List.map_cons]; simp only [Zjt f g os (b+1)]
theorem ZnX {f:Nat→Zf→Nat} {m:Nat}:∀ {os:List Zf} (b:Nat),(∀ o∈os,∀ j,f j o≤m)→sumI f b os≤m*os.length
 | [],_,_=>by simp [sumI]
 | o::os,b,h=>by
  have h1:=h o List.mem_cons_self b
  have h2:=ZnX (os:=os) (b+1) fun x hx j=>h x (List.mem_cons_of_mem _ hx) j
  unfold sumI
  rw [List.length_cons,Nat.mul_add,Nat.mul_one]
  omega
theorem ZoU {n:Za} {i:Nat} {o:Zf} (hg:0≤o.gone∧o.gone≤o.way.length):(ZbW n i o).length≤2*o.way.length+2:=by
 have h1:∀ l:List Ze,(l.flatMap fun t=>[ZeH n i t,Zfy n i t]).length=2*l.length:=fun l=>by
  induction l with
  | nil=>rfl
  | cons x xs ih=>rw [List.flatMap_cons,List.length_append,ih,List.length_cons]; simp only [List.length_cons,List.length_nil]; omega
 have h2:(o.way.take o.gone.toNat).length≤o.way.length:=by rw [List.length_take]; omega
 unfold ZbW
 rw [List.length_append,List.length_cons,h1]
 have h3:∀ x:Option Zj,x.toList.length≤1:=fun x=>by cases x <;> simp
 split
 ·have:=h3 ((o.way[o.gone.toNat]?).map (ZeH n i)); omega
 ·split <;> simp only [List.length_cons,List.length_nil] <;> omega
theorem ZpR {w:Zd} {a:Int} (h:WOk w):sumI (fun j o=>(ZbW w.network j o).length) 0 w.orders+(ZeM w a).length=sumI (fun j o=>(ZbW w.network j (ZdI w.network a o)).length) 0 w.orders:=by
 have key:∀ (os:List Zf) (b:Nat),(∀ o∈os,0≤o.gone)→sumI (fun j o=>(ZbW w.network j (ZdI w.network a o)).length) b os=sumI (fun j o=>(ZbW w.network j o).length) b os+(sumI (fun j o=>(Zbz w.network a j o).length) b os+sumI (fun j o=>(Zep w.network a j (ZJ w.network a o)).length) b os):=by
  intro os
  induction os with
  | nil=>intro b _; rfl
  | cons o os ih=>
   intro b hb
   have:=ih (b+1) fun x hx=>hb x (List.mem_cons_of_mem _ hx)
   have e:(ZbW w.network b (ZdI w.network a o)).length=(ZbW w.network b o).length+((Zbz w.network a b o).length+(Zep w.network a b (ZJ w.network a o)).length):=by
    unfold ZdI
    rw [ZmI,Zki (hb o List.mem_cons_self),List.length_append,List.length_append]; omega
   unfold sumI
   rw [e]
   omega
 rw [key w.orders 0 fun o ho=>by
  obtain ⟨i,hi,rfl⟩:=List.getElem_of_mem ho
  exact (h.way (List.getElem?_eq_getElem hi)).gone.1]
 unfold ZeM
 rw [List.length_append,ZhJ,ZhJ,Zjt]
end Go.Proofs.YtmcdjilbkmhfoaaGreat
namespace Go.Proofs.YtmcdjilbkmhfoaaGreat
set_option maxRecDepth 10000
open Go.RowKit
set_option linter.unusedVariables false
set_option linter.unusedSimpArgs false
structure Zga (w:Zd):Prop where
 seen:Zp4 w
 len:w.scans.length=sumI (fun j o=>(ZbW w.network j o).length) 0 w.orders
 few:w.orders.length≤4
 way:∀ o∈w.orders,o.way.length≤20
 thing:∀ s∈w.scans,s.thing≤(w.orders.length:Int)
theorem Zl9 {w:Zd} {a:Int} (h:WOk w) (h2:WOk (Zav w a)) (hs:Zga w):Zga (Zav w a):=by
 have hl:=ZpR (a:=a) h
 have hway:∀ o∈(Zav w a).orders,o.way.length≤20:=fun o ho=>by
  have ho':o∈w.orders.map (ZdI w.network a):=ho
  obtain ⟨x,hx,rfl⟩:=List.mem_map.1 ho'
  rw [(Zgs w.network a x).way]
  exact hs.way x hx
 have hb:sumI (fun j o=>(ZbW w.network j o).length) 0 (w.orders.map (ZdI w.network a))≤42*(w.orders.map (ZdI w.network a)).length:=ZnX 0 fun o ho j=>by
  obtain ⟨i,hi,rfl⟩:=List.getElem_of_mem ho
  have hg:=(h2.way (w:=Zav w a) (List.getElem?_eq_getElem (l:=w.orders.map (ZdI w.network a)) hi)).gone
  have:=ZoU (n:=w.network) (i:=j) hg
  have:=hway _ (List.getElem_mem (l:=(Zav w a).orders) hi)
  have e:(Zav w a).orders[i]=(w.orders.map (ZdI w.network a))[i]:=rfl
  rw [e] at this
  omega
 have hf:=hs.few
 rw [List.length_map] at hb
 have hroom:w.scans.length+(ZeM w a).length≤200:=by
  rw [Zjt] at hb
  rw [hs.len,hl]
  omega
 have hfo:=Zjk (ZeM w a) (w.scans,w.made) hs.seen.made hroom
 have hsc:(Zav w a).scans=w.scans++ZeM w a:=by
  show ((ZeM w a).foldl (Zdd w.skip) (w.scans,w.made)).1=_
  rw [hs.seen.skip,hfo]
 refine ⟨Znw h hs.seen hroom,?_,by show (w.orders.map (ZdI w.network a)).length≤4; rw [List.length_map]; exact hf,hway,fun s hm=>?_⟩
 case refine_2=>
  show s.thing≤((w.orders.map (ZdI w.network a)).length:Int)
  rw [List.length_map]
  rw [hsc] at hm
  rcases List.mem_append.1 hm with hm | hm
  ·exact hs.thing s hm
  ·unfold ZeM at hm
   rcases List.mem_append.1 hm with hm | hm
   ·obtain ⟨j,o,h1,h3⟩:=Zfb hm
    have:=(List.getElem?_eq_some_iff.1 h1).1
    rw [ZjG _ _ s h3]; omega
   ·obtain ⟨j,o,h1,h3⟩:=Zfb hm
    have:=(List.getElem?_eq_some_iff.1 h1).1
    rw [List.length_map] at this
    rw [ZjY _ _ s h3]; omega
 rw [hsc,List.length_append,hs.len,hl]
 show _=sumI (fun j o=>(ZbW w.network j o).length) 0 (w.orders.map (ZdI w.network a))
 rw [Zjt]
theorem ZmG:∀ (k:Nat) (w:Zd) (u:Int),WOk w→Zga w→u≤100000→Zga (runV k w u)
 | 0,w,u,_,hs,_=>hs
 | k+1,w,u,h,hs,hu=>by
  unfold runV
  split
  ·exact hs
  ·rename_i hc
   obtain ⟨a,_,_⟩:=ZfI h (by omega)
   exact ZmG k _ u a (Zl9 h a hs) hu
theorem Zqg {w:Zd} (h:WOk w) (hs:Zga w) {u:Int} (hu:u≤100000):Zga (advV w u):=by
 have hr:=ZmG (Zfv w) w u h hs hu
 exact ⟨⟨hr.seen.skip,hr.seen.made,hr.seen.own⟩,hr.len,hr.few,hr.way,hr.thing⟩
end Go.Proofs.YtmcdjilbkmhfoaaGreat
namespace Go.Proofs.YtmcdjilbkmhfoaaGreat
set_option maxRecDepth 10000
open Go.RowKit
set_option linter.unusedVariables false
set_option linter.unusedSimpArgs false
set_option linter.unusedSectionVars false
theorem ZeS {l:List ByteArray} {p:ByteArray} (h:0≤idxV l p):getI l (idxV l p)=some p:=by
 unfold idxV at h ⊢
 cases h':l.findIdx? fun y=>decide (y=p) with
 | none=>rw [h'] at h; simp at h
 | some k=>
  obtain ⟨h1,h2,_⟩:=List.findIdx?_eq_some_iff_getElem.1 h'
  have h2:=of_decide_eq_true h2
  simp only [Option.elim]
  rw [Zq,List.getElem?_eq_getElem h1,h2]
theorem Zoq {α:Type} {xs:List α} {i j:Int} {v x:α} (hi:0≤i) (h:getI (xs.set (Int.toNat i) v) j=some x):(j=i∧x=v)∨getI xs j=some x:=by
 obtain ⟨h0,h1⟩:=ZdO h
 by_cases he:j=i
 ·subst he
  rw [List.getElem?_set_self'] at h1
  cases hx:xs[j.toNat]? with
  | none=>rw [hx] at h1; simp at h1
  | some y=>rw [hx] at h1; simp at h1; exact .inl ⟨rfl,h1.symm⟩
 ·refine .inr ?_
  rw [List.getElem?_set_ne (by omega)] at h1
  unfold getI; rw [if_pos h0]; exact h1
def Cand (n:Za) (l:List Zc) (closed:List Ze) (weight f:Int) (r:List Int) (x v:Int):Prop:=
 ∃ (i:Nat) (y:YLeg) (d u z:Int),n.legs[i]?=some y∧idxV (Zb n) y.to_=x∧getI r (idxV (Zb n) y.from_)=some u∧¬ u<0∧Z8 n u (decide (idxV (Zb n) y.from_=f))=some z∧Z5 n l closed (i:Int) z weight=some d∧¬ d<0∧Zn n ⟨(i:Int),d⟩=some v
section
variable {n:Za} (hf:ZV n)
include hf
theorem ZkX {l:List Zc} (hl:l.length≤1048576) {closed:List Ze} (hc:closed.length≤1048576) (weight:Int) {best:List Int} (hb:best.length=(Zb n).length) (f:Int):Tot (Zan n l closed weight (Zb n) best f) fun r=>r.length=(Zb n).length∧∀ x v,getI r x=some v→getI best x=some v∨Cand n l closed weight f best x v:=by
 have hp:=plen hf
 have hll:=hf.legs
 unfold Zan
 refine Tot.bind (P:=fun r=>r=best) ?_ fun r hr=>?_
 ·by_cases h1:best.length≤1048576
  ·exact Tot.of (ZjU h1) rfl
  ·unfold ZaW
   exact Tot.chk (Zcp (by simp only [List.length_nil]; omega) (by omega)) (Tot.ret (by simp))
 ·subst hr
  refine Tot.bind (P:=fun o=>o.length=(Zb n).length∧∀ x v,getI o x=some v→getI r x=some v∨Cand n l closed weight f r x v) ?_ fun o ho=>Tot.ret ho
  refine Tot.loop (fun (k:Nat) (s:Int × List Int)=>∃ i:Nat,s.1=(i:Int)∧i+k=n.legs.length∧s.2.length=(Zb n).length∧∀ x v,getI s.2 x=some v→getI r x=some v∨Cand n l closed weight f r x v) (fun k s hs=>?_) NN n.legs.length _ ⟨0,rfl,by omega,hb,fun x v h=>.inl h⟩ (by unfold NN; omega)
  obtain ⟨i,hi,hk,hlen,hcd⟩:=hs
  unfold ZaJ
  rw [hi]
  refine Tot.cond (fun hd=>?_) fun hd=>Tot.ret ⟨hlen,hcd⟩
  have hlt:=of_decide_eq_true hd
  have hw:w64 ((i:Int)+1)=((i+1:Nat):Int):=by rw [Zp (by omega)]; omega
  obtain ⟨y,hy,hm⟩:=ZaS (xs:=n.legs) (i:=(i:Int)) ⟨by omega,hlt⟩
  obtain ⟨m1,m2⟩:=ZdQ hm
  have a0:=Zcc m1
  have a1:=(ZcQ (Zb n) y.from_).2
  have b0:=Zcc m2
  have b1:=(ZcQ (Zb n) y.to_).2
  obtain ⟨v6,g6,_⟩:=ZaS (xs:=r) (i:=idxV (Zb n) y.from_) ⟨a0,by omega⟩
  obtain ⟨v11,g11,_⟩:=ZaS (xs:=s.2) (i:=idxV (Zb n) y.to_) ⟨b0,by omega⟩
  simp only [hy,Option.bind_some,ZeE hf,g6,hw]
  have go:∀ (s':List Int),s'.length=(Zb n).length→(∀ x v,getI s' x=some v→getI r x=some v∨Cand n l closed weight f r x v)→Zgu (fun (k:Nat) (s:Int × List Int)=>∃ i:Nat,s.1=(i:Int)∧i+k=n.legs.length∧s.2.length=(Zb n).length∧∀ x v,getI s.2 x=some v→getI r x=some v∨Cand n l closed weight f r x v) (fun o:List Int=>o.length=(Zb n).length∧∀ x v,getI o x=some v→getI r x=some v∨Cand n l closed weight f r x v) k (Sum.inl (((i+1:Nat):Int),s')):=fun s' h' h''=>⟨k-1,by omega,i+1,rfl,by omega,h',h''⟩
  refine Tot.cond (fun _=>Tot.ret (go _ hlen hcd)) fun hu=>?_
  obtain ⟨z,ez,_⟩:=Zfp (n:=n) v6 (decide (idxV (Zb n) y.from_=f))
  obtain ⟨d,ed,_⟩:=Zgl hf hl hc hy z weight
  rw [ez,Option.bind_some,ed,Option.bind_some]
  refine Tot.cond (fun _=>Tot.ret (go _ hlen hcd)) fun hdn=>?_
  obtain ⟨e,he⟩:=Zcv (n:=n) (t:=⟨(i:Int),d⟩) hy
  simp only [he,Option.bind_some,g11]
  have hyi:n.legs[i]?=some y:=by rw [Zq] at hy; exact hy
  have new:∀ x v,getI (s.2.set (Int.toNat (idxV (Zb n) y.to_)) e) x=some v→getI r x=some v∨Cand n l closed weight f r x v:=fun x v h=>by
   rcases Zoq b0 h with ⟨rfl,rfl⟩ | h
   ·exact .inr ⟨i,y,d,v6,z,hyi,rfl,g6,of_decide_eq_false hu,ez,ed,of_decide_eq_false hdn,he⟩
   ·exact hcd x v h
  exact Tot.cond (fun _=>Tot.ret (go _ (by rw [List.length_set]; exact hlen) new)) fun _=>Tot.cond (fun _=>Tot.ret (go _ (by rw [List.length_set]; exact hlen) new)) fun _=>Tot.ret (go _ hlen hcd)
theorem Zuj {l:List Zc} (hl:l.length≤1048576) {closed:List Ze} (hc:closed.length≤1048576) (weight:Int) {before:List Int} (hb:before.length=(Zb n).length) (f:Int) {x:Int} (hx:0≤x∧x<(Zb n).length) {e:Int} (hcd:Cand n l closed weight f before x e):
 Tot (Zb2 n l closed weight (Zb n) before f x e) fun t=>∃ y,getI n.legs t.leg=some y∧getI (Zb n) x=some y.to_:=by
 have hp:=plen hf
 have hll:=hf.legs
 obtain ⟨i0,y0,d0,u0,z0,c1,c2,c3,c4,c5,c6,c7,c8⟩:=hcd
 have hi0:=(List.getElem?_eq_some_iff.1 c1).1
 unfold Zb2
 have hl0:Tot (Zl (Zas n l closed weight (Zb n) before f x e) NN 0) fun r=>∃ t y,r=.inr t∧getI n.legs t.leg=some y∧getI (Zb n) x=some y.to_:=by
  refine Tot.loop (fun (k:Nat) (s:Int)=>∃ i:Nat,s=(i:Int)∧i+k=n.legs.length∧i≤i0) (fun k s hs=>?_) NN n.legs.length 0 ⟨0,rfl,by omega,by omega⟩ (by unfold NN; omega)
  obtain ⟨i,rfl,hk,hi⟩:=hs
  unfold Zas
  refine Tot.cond (fun hd=>?_) fun hd=>by have:=of_decide_eq_false hd; omega
  have hlt:=of_decide_eq_true hd
  have hw:w64 ((i:Int)+1)=((i+1:Nat):Int):=by rw [Zp (by omega)]; omega
  by_cases hii:i=i0
  ·subst hii
   have hy:getI n.legs (i:Int)=some y0:=by rw [Zq]; exact c1
   obtain ⟨m1,m2⟩:=ZdQ (List.mem_of_getElem? c1)
   have gp:getI (Zb n) x=some y0.to_:=by rw [← c2]; exact ZeS (Zcc m2)
   simp only [hy,Option.bind_some,ZeE hf,gp,c3,decide_true,Bool.not_true,cond_false,decide_eq_false c4,c5,c6,decide_eq_true (show 0≤d0 by omega),cond_true,c8]
   exact Tot.ret ⟨_,y0,rfl,hy,rfl⟩
  ·obtain ⟨y,hy,hm⟩:=ZaS (xs:=n.legs) (i:=(i:Int)) ⟨by omega,hlt⟩
   obtain ⟨m1,m2⟩:=ZdQ hm
   have a0:=Zcc m1
   have a1:=(ZcQ (Zb n) y.from_).2
   obtain ⟨v6,g6,_⟩:=ZaS (xs:=before) (i:=idxV (Zb n) y.from_) ⟨a0,by omega⟩
   obtain ⟨p,gp,_⟩:=ZaS (xs:=Zb n) (i:=x) hx
   have go:Zgu (fun (k:Nat) (s:Int)=>∃ i:Nat,s=(i:Int)∧i+k=n.legs.length∧i≤i0) (fun r:Unit ⊕ Ze=>∃ t y,r=.inr t∧getI n.legs t.leg=some y∧getI (Zb n) x=some y.to_) k (Sum.inl (w64 ((i:Int)+1))):=⟨k-1,by omega,i+1,hw,by omega,by omega⟩
   simp only [hy,Option.bind_some,ZeE hf,gp,g6]
   refine Tot.cond (fun _=>Tot.ret go) fun hto=>Tot.cond (fun _=>Tot.ret go) fun _=>Tot.bind (Zfp _ _) fun y7 _=>Tot.bind (Zgl hf hl hc hy y7 weight) fun y8 _=>Tot.cond (fun _=>?_) fun _=>Tot.ret go
   obtain ⟨v,hv⟩:=Zcv (n:=n) (t:=⟨(i:Int),y8⟩) hy
   rw [hv,Option.bind_some]
   have hto':y.to_=p:=by simpa using hto
   exact Tot.cond (fun _=>Tot.ret ⟨_,y,rfl,hy,by rw [hto']⟩) fun _=>Tot.ret go
 refine Tot.bind hl0 fun r hr=>?_
 obtain ⟨t,y,rfl,h1,h2⟩:=hr
 exact Tot.ret ⟨y,h1,h2⟩
end
def ZoR (n:Za) (l:List Zc) (closed:List Ze) (weight f:Int) (r:List Int):List Int:=(Zan n l closed weight (Zb n) r f).getD []
def Z7 (n:Za) (l:List Zc) (closed:List Ze) (weight f at_:Int):Nat→List Int
 | 0=>(ZbC (Zb n) f at_).getD []
 | k+1=>ZoR n l closed weight f (Z7 n l closed weight f at_ k)
section
variable {n:Za} (hf:ZV n) {l:List Zc} (hl:l.length≤1048576) {closed:List Ze} (hc:closed.length≤1048576) (weight f at_:Int)
include hf hl hc
theorem ZeO:∀ k,(Z7 n l closed weight f at_ k).length=(Zb n).length
 | 0=>by
  obtain ⟨r,e,h⟩:=ZhW hf f at_
  unfold Z7; rw [e]; exact h
 | k+1=>by
  obtain ⟨r,e,h,_⟩:=ZkX hf hl hc weight (ZeO k) f
  unfold Z7 ZoR; rw [e]; exact h
theorem Zgd (k:Nat):Zan n l closed weight (Zb n) (Z7 n l closed weight f at_ k) f=some (Z7 n l closed weight f at_ (k+1))∧∀ x v,getI (Z7 n l closed weight f at_ (k+1)) x=some v→getI (Z7 n l closed weight f at_ k) x=some v∨Cand n l closed weight f (Z7 n l closed weight f at_ k) x v:=by
 obtain ⟨r,e,h,h'⟩:=ZkX hf hl hc weight (ZeO hf hl hc weight f at_ k) f
 have:Z7 n l closed weight f at_ (k+1)=r:=by show (Zan n l closed weight (Zb n) (Z7 n l closed weight f at_ k) f).getD []=r; rw [e]; rfl
 rw [this]
 exact ⟨e,h'⟩
theorem ZeR {from_:ByteArray} (hC:Z6 n l=true∧0≤idxV (Zb n) from_∧at_≤100000∧1≤weight) {k:Nat} (hk:k≤(Zb n).length):ZK n l closed from_ at_ weight (k:Int)=some (Z7 n l closed weight (idxV (Zb n) from_) at_ k):=by
 have hp:=plen hf
 obtain ⟨r0,e0,_⟩:=ZhW hf (idxV (Zb n) from_) at_
 have h0:Z7 n l closed weight (idxV (Zb n) from_) at_ 0=r0:=by unfold Z7; rw [e0]; rfl
 unfold ZK
 rw [(ZT hf).2]
 simp only [Option.bind_some,ZeE hf,Zby hf hl,hC.1,Bool.not_true,cond_false,decide_eq_false (show ¬ idxV (Zb n) from_<0 by omega),decide_eq_false (show ¬ 100000<at_ by omega),decide_eq_false (show ¬ weight<1 by omega),decide_eq_false (show ¬ (k:Int)<0 by omega),e0]
 have e:Zl (Za8 n l closed weight (k:Int) (Zb n) (idxV (Zb n) from_)) NN (0,Z7 n l closed weight (idxV (Zb n) from_) at_ 0)=some (Z7 n l closed weight (idxV (Zb n) from_) at_ k):=by
  refine ZdJ (body:=Za8 n l closed weight (k:Int) (Zb n) (idxV (Zb n) from_)) (fun i:Nat=>((i:Int),Z7 n l closed weight (idxV (Zb n) from_) at_ i)) (n:=k) (o:=Z7 n l closed weight (idxV (Zb n) from_) at_ k) (fun i hi=>?_) ?_ NN (by unfold NN; omega)
  ·unfold Za8
   rw [decide_eq_true (show (i:Int)<(k:Int) by omega),decide_eq_true (show (i:Int)<((Zb n).length:Int) by omega),cond_true,cond_true,(Zgd hf hl hc weight _ at_ i).1,Option.bind_some,Zp (by omega)]
   rfl
  ·unfold Za8
   simp
 rw [← h0,e]; rfl
end
section
variable {n:Za} (hf:ZV n)
include hf
theorem ZmD {l:List Zc} (hl:l.length≤1048576) {closed:List Ze} (hc:closed.length≤1048576) (from_ to_:ByteArray) (at_ weight:Int):
 Tot (ZO n l closed from_ to_ at_ weight) fun r=>r.1.length≤(Zb n).length∧∀ t,r.1.getLast?=some t→Zag n t=to_:=by
 have hp:=plen hf
 unfold ZO
 rw [(ZT hf).2]
 simp only [Option.bind_some,ZeE hf]
 obtain ⟨y4,e4,h4⟩:=ZsC hf hl hc from_ at_ weight ((Zb n).length:Int)
 rw [e4,Option.bind_some]
 refine Tot.cond (fun _=>Tot.ret ⟨by simp,fun t h=>by simp at h⟩) fun h1=>Tot.cond (fun _=>Tot.ret ⟨by simp,fun t h=>by simp at h⟩) fun h2=>?_
 have h1':=of_decide_eq_false h1
 have h2':=of_decide_eq_false h2
 have hlt:=(ZcQ (Zb n) to_).2
 rcases h4 with ⟨hlen,hC⟩ | ⟨h4,_⟩
 ·have hC4:Z6 n l=true∧0≤idxV (Zb n) from_∧at_≤100000∧1≤weight:=⟨hC.1,hC.2.1,hC.2.2.1,hC.2.2.2.1⟩
  have hfb:∀ k:Nat,k≤(Zb n).length→ZK n l closed from_ at_ weight (k:Int)=some (Z7 n l closed weight (idxV (Zb n) from_) at_ k):=fun k hk=>ZeR hf hl hc weight at_ hC4 hk
  have hbl:=ZeO hf hl hc weight (idxV (Zb n) from_) at_
  rw [hfb _ (Nat.le_refl _)] at e4
  obtain rfl:=Option.some.inj e4
  obtain ⟨y5,e5,_⟩:=ZaS (xs:=Z7 n l closed weight (idxV (Zb n) from_) at_ (Zb n).length) (i:=idxV (Zb n) to_) ⟨by omega,by omega⟩
  simp only [e5,Option.bind_some]
  refine Tot.cond (fun _=>Tot.ret ⟨by simp,fun t h=>by simp at h⟩) fun h3=>?_
  have hn0:0<n.legs.length:=by have:=Zar n; omega
  refine Tot.bind (P:=fun o:Int=>∃ k:Nat,o=(k:Int)∧k≤(Zb n).length∧getI (Z7 n l closed weight (idxV (Zb n) from_) at_ k) (idxV (Zb n) to_)=some y5∧∀ j:Nat,j<k→¬ getI (Z7 n l closed weight (idxV (Zb n) from_) at_ j) (idxV (Zb n) to_)=some y5) ?_ fun o ho=>?_
  ·refine Tot.loop (fun (k:Nat) (s:Int)=>∃ i:Nat,s=(i:Int)∧i+k=(Zb n).length∧∀ j:Nat,j<i→¬ getI (Z7 n l closed weight (idxV (Zb n) from_) at_ j) (idxV (Zb n) to_)=some y5) (fun k s hs=>?_) NN (Zb n).length 0 ⟨0,rfl,by omega,fun j hj=>by omega⟩ (by unfold NN; omega)
   obtain ⟨i,rfl,hk,hmin⟩:=hs
   unfold Zay
   have hw:w64 ((i:Int)+1)=((i+1:Nat):Int):=by rw [Zp (by omega)]; omega
   rw [hfb i (by omega),Option.bind_some]
   by_cases hi:i=(Zb n).length
   ·subst hi
    rw [e5,Option.bind_some]
    simp only [decide_true,Bool.not_true,cond_false]
    exact Tot.ret ⟨_,rfl,by omega,e5,hmin⟩
   ·obtain ⟨v,hv,_⟩:=ZaS (xs:=Z7 n l closed weight (idxV (Zb n) from_) at_ i) (i:=idxV (Zb n) to_) ⟨by omega,by have:=hbl i; omega⟩
    rw [hv,Option.bind_some]
    refine Tot.cond (fun hne=>Tot.ret ⟨k-1,by omega,i+1,hw,by omega,fun j hj=>?_⟩) fun heq=>Tot.ret ⟨i,rfl,by omega,?_,hmin⟩
    ·by_cases hji:j=i
     ·subst hji; rw [hv]; simpa using hne
     ·exact hmin j (by omega)
    ·have:v=y5:=by simpa using heq
     rw [hv,this]
  ·obtain ⟨k0,rfl,hk0,hat,hmin⟩:=ho
   refine Tot.bind (P:=fun w:List Ze=>w.length≤(Zb n).length∧∀ t,w.getLast?=some t→Zag n t=to_) ?_ fun w hw=>Tot.ret hw
   refine Tot.loop (fun (k:Nat) (s:Int × Int × Int × List Ze)=>(0≤s.1∧s.1<((Zb n).length:Int))∧s.2.2.1=(k:Int)∧s.2.2.2.length+k≤(Zb n).length∧(s.2.2.2=[]→k=k0∧s.1=idxV (Zb n) to_∧s.2.1=y5)∧∀ t,s.2.2.2.getLast?=some t→Zag n t=to_) (fun k s hs=>?_) NN k0 _ ⟨⟨by omega,by omega⟩,rfl,by simp only [List.length_nil]; omega,fun _=>⟨rfl,rfl,rfl⟩,fun t h=>by simp at h⟩ (by unfold NN; omega)
   obtain ⟨k1,k2,k3,k4,k5⟩:=hs
   unfold Zad
   refine Tot.cond (fun hd=>?_) fun hd=>Tot.ret ⟨by omega,k5⟩
   have hlt2:=of_decide_eq_true hd
   have hw:w64 (s.2.2.1-1)=((k-1:Nat):Int):=by rw [Zp (by omega)]; omega
   rw [hw,hfb (k-1) (by omega),Option.bind_some]
   refine Tot.bind (P:=fun t=>∃ y,getI n.legs t.leg=some y∧y∈n.legs∧(s.2.2.2=[]→Zag n t=to_)) ?_ fun t ht=>Tot.chk (Zcp (by simp only [List.length_cons,List.length_nil]; omega) (by omega)) ?_
   ·by_cases he:s.2.2.2=[]
    ·obtain ⟨rfl,k6,k7⟩:=k4 he
     have hcd:Cand n l closed weight (idxV (Zb n) from_) (Z7 n l closed weight (idxV (Zb n) from_) at_ (k-1)) (idxV (Zb n) to_) y5:=by
      have h:=(Zgd hf hl hc weight (idxV (Zb n) from_) at_ (k-1)).2 (idxV (Zb n) to_) y5 (by rw [show k-1+1=k by omega]; exact hat)
      rcases h with h | h
      ·exact absurd h (hmin (k-1) (by omega))
      ·exact h
     rw [k6,k7]
     refine (Zuj hf hl hc weight (hbl (k-1)) _ ⟨by omega,by omega⟩ hcd).mono fun t ht=>?_
     obtain ⟨y,hy,hto⟩:=ht
     refine ⟨y,hy,Zgy hy,fun _=>?_⟩
     rw [ZeS (by omega)] at hto
     unfold Zag
     rw [hy]
     exact (Option.some.inj hto).symm
    ·refine (Ztr hf hl hc weight (hbl (k-1)) _ k1 _ hn0).mono fun t ht=>?_
     obtain ⟨y,hy,hm⟩:=ht
     exact ⟨y,hy,hm,fun h=>absurd h he⟩
   ·obtain ⟨y,hy,hm,hlast⟩:=ht
    obtain ⟨m1,_⟩:=ZdQ hm
    have a0:=Zcc m1
    have a1:=(ZcQ (Zb n) y.from_).2
    obtain ⟨v,hv,_⟩:=ZaS (xs:=Z7 n l closed weight (idxV (Zb n) from_) at_ (k-1)) (i:=idxV (Zb n) y.from_) ⟨a0,by have:=hbl (k-1); omega⟩
    simp only [hy,Option.bind_some,ZeE hf,hv]
    refine Tot.ret ⟨k-1,by omega,⟨a0,a1⟩,rfl,by simp only [List.length_append,List.length_cons,List.length_nil]; omega,fun h=>by simp at h,fun q hq=>?_⟩
    cases hs:s.2.2.2 with
    | nil=>
     rw [hs] at hq
     simp at hq
     rw [← hq]
     exact hlast hs
    | cons a a2=>
     rw [hs] at hq
     have hq':(t::a::a2).getLast?=some q:=hq
     rw [List.getLast?_cons_cons] at hq'
     exact k5 q (by rw [hs]; exact hq')
 ·subst h4; simp at h2'
end
end Go.Proofs.YtmcdjilbkmhfoaaGreat
namespace Go.Proofs.YtmcdjilbkmhfoaaGreat
set_option maxRecDepth 10000
open Go.RowKit
set_option linter.unusedVariables false
set_option maxHeartbeats 16000000
def Za6 (leg:Int) (at1_:Int) (c0_:Za) (c1_:List Ze) (c2_:List Zc) (c3_:Int) (s0:Int):Option (Int ⊕ (Unit ⊕ (Ze × Bool))):=
 cond (decide (s0≤60))
 ((Zdk c0_ leg s0).bind fun y1=>
 cond y1
 ((ZI c0_ (⟨leg,s0⟩:Ze)).bind fun y2=>
 cond (decide (at1_≤y2))
 ((ZbB c1_ (⟨leg,s0⟩:Ze)).bind fun y3=>
 cond (!y3)
 ((getI c0_.legs leg).bind fun y4=>
 (Zcy c2_ (⟨leg,s0⟩:Ze)).bind fun y5=>
 cond (decide (c3_≤(w64 (y4.room-y5))))
 (some (.inr (.inr ((⟨leg,s0⟩:Ze),true))))
 (some (.inl (w64 (s0+1)))))
 (some (.inl (w64 (s0+1)))))
 (some (.inl (w64 (s0+1)))))
 (some (.inl (w64 (s0+1)))))
 (some (.inr (.inl ())))
instance (leg:Int) (at1_:Int) (c0_:Za) (c1_:List Ze) (c2_:List Zc) (c3_:Int):ZU (Za6 leg at1_ c0_ c1_ c2_ c3_):=⟨fun s0=>(vi leg::vi at1_::.rp [.sl (c0_.legs.map cLeg),.sl (c0_.off.map cInt),vi c0_.change]::.rp [.sl (c1_.map Zr)]::.rp [.sl (c2_.map Zg)]::.rp [vi c3_]::.un::.un::.be 0 0 0::.un::vi s0::(U 41 [])),fun s0=>[some ⟨55,2,[[vi 0,vi 0]]⟩]⟩
def ZbE (leg:Int) (at1_:Int) (c0_:Za) (c1_:List Ze) (c2_:List Zc) (c3_:Int):Option (Ze × Bool):=
 (Zl (Za6 leg at1_ c0_ c1_ c2_ c3_) NN 0).bind (ZX (fun o0=>
 some ((⟨0,0⟩:Ze),false)) (fun r=>some r))
instance (leg:Int) (at1_:Int) (c0_:Za) (c1_:List Ze) (c2_:List Zc) (c3_:Int):CT Tryz.prog (ZbE leg at1_ c0_ c1_ c2_ c3_):=⟨238,[vi leg,vi at1_,.rp [.sl (c0_.legs.map cLeg),.sl (c0_.off.map cInt),vi c0_.change],.rp [.sl (c1_.map Zr)],.rp [.sl (c2_.map Zg)],.rp [vi c3_]],[],fun r=>.tu [.ag [vi r.1.leg,vi r.1.day],vb r.2],fun r=>[],fun H=>by replace H:=H0 H; unfold ZbE at H; exact Zh Tryz.func238 rfl Tryz.ntmps238 Tryz.results238 fun Q hQ hQn=>wk3⟩
def Zaw (n:Za) (find0_:Za) (find1_:List Ze) (find2_:List Zc) (find3_:Int) (at3_:Int) (legs:Int) (y1:List ByteArray) (y2:Int) (s0:Int × (List Int)):Option ((Int × (List Int)) ⊕ (List Int)):=
 cond (decide (s0.1<(y1.length:Int)))
 ((chk (Z1 ((s0.2:List Int).length+([(-1)]:List Int).length) 8)).bind fun _=>
 some (.inl ((w64 (s0.1+1)),((s0.2:List Int)++[(-1)]))))
 (some (.inr s0.2))
instance (n:Za) (find0_:Za) (find1_:List Ze) (find2_:List Zc) (find3_:Int) (at3_:Int) (legs:Int) (y1:List ByteArray) (y2:Int):ZU (Zaw n find0_ find1_ find2_ find3_ at3_ legs y1 y2):=⟨fun s0=>(.un::.fn 238 [.rp [.sl (find0_.legs.map cLeg),.sl (find0_.off.map cInt),vi find0_.change],.rp [.sl (find1_.map Zr)],.rp [.sl (find2_.map Zg)],.rp [vi find3_]]::.un::vi at3_::vi legs::.be 0 0 0::(U 5 (.ms 1::vi y2::.ms 2::(U 26 (vi (y1.length:Int)::vi s0.1::(U 83 [])))))),fun s0=>[some ⟨35,3,[[.sl (n.legs.map cLeg),.sl (n.off.map cInt),vi n.change]]⟩,some ⟨9,1,y1.map cStr⟩,some ⟨3,1,s0.2.map cInt⟩]⟩
def Z4 (n:Za) (find0_:Za) (find1_:List Ze) (find2_:List Zc) (find3_:Int) (legs:Int) (y1:List ByteArray) (y2:Int) (s1:Int × (List Int)) (s2:Int × Bool × (List Int)):Option ((Int × Bool × (List Int)) ⊕ (Bool × (List Int))):=
 cond (decide (s2.1<(n.legs.length:Int)))
 ((getI n.legs s2.1).bind fun y4=>
 (Zu y1 y4.from_).bind fun y5=>
 (Zu y1 y4.to_).bind fun y6=>
 (getI s1.2 y5).bind fun y7=>
 cond (decide (y7<0))
 (some (.inl ((w64 (s2.1+1)),s2.2.1,s2.2.2)))
 ((getI s1.2 y5).bind fun y8=>
 (ZcL n y8 (decide (y5=y2))).bind fun y9=>
 (ZbE s2.1 y9 find0_ find1_ find2_ find3_).bind fun y10=>
 cond y10.2
 ((getI s2.2.2 y6).bind fun y11=>
 cond (decide (y11<0))
 ((ZL n y10.1).bind fun y12=>
 (getI s2.2.2 y6).bind fun y13=>
 some (.inl ((w64 (s2.1+1)),true,(s2.2.2.set (Int.toNat y6) y12))))
 ((ZL n y10.1).bind fun y14=>
 (getI s2.2.2 y6).bind fun y15=>
 cond (decide (y14<y15))
 ((ZL n y10.1).bind fun y16=>
 (getI s2.2.2 y6).bind fun y17=>
 some (.inl ((w64 (s2.1+1)),true,(s2.2.2.set (Int.toNat y6) y16))))
 (some (.inl ((w64 (s2.1+1)),s2.2.1,s2.2.2)))))
 (some (.inl ((w64 (s2.1+1)),s2.2.1,s2.2.2)))))
 (some (.inr (s2.2.1,s2.2.2)))
instance (n:Za) (find0_:Za) (find1_:List Ze) (find2_:List Zc) (find3_:Int) (legs:Int) (y1:List ByteArray) (y2:Int) (s1:Int × (List Int)):ZU (Z4 n find0_ find1_ find2_ find3_ legs y1 y2 s1):=⟨fun s2=>(.un::.fn 238 [.rp [.sl (find0_.legs.map cLeg),.sl (find0_.off.map cInt),vi find0_.change],.rp [.sl (find1_.map Zr)],.rp [.sl (find2_.map Zg)],.rp [vi find3_]]::.un::.un::vi legs::.be 0 0 0::(U 5 (.ms 1::vi y2::.ms 2::vi s1.1::.ms 3::vb s2.2.1::(U 44 (.sl (n.legs.map cLeg)::vi (n.legs.length:Int)::vi s2.1::(U 61 [])))))),fun s2=>[some ⟨35,3,[[.sl (n.legs.map cLeg),.sl (n.off.map cInt),vi n.change]]⟩,some ⟨9,1,y1.map cStr⟩,some ⟨3,1,s1.2.map cInt⟩,some ⟨3,1,s2.2.2.map cInt⟩]⟩
def Z3 (n:Za) (find0_:Za) (find1_:List Ze) (find2_:List Zc) (find3_:Int) (legs:Int) (y1:List ByteArray) (y2:Int) (s1:Int × (List Int)):Option ((Int × (List Int)) ⊕ (List Int)):=
 cond (decide (s1.1<legs))
 ((chk (Z1 ((([]:List Int):List Int).length+(s1.2:List Int).length) 8)).bind fun _=>
 (Zl (Z4 n find0_ find1_ find2_ find3_ legs y1 y2 s1) NN (0,false,((([]:List Int):List Int)++s1.2))).bind (fun o2=>
 cond (!o2.1)
 (some (.inr o2.2))
 (some (.inl ((w64 (s1.1+1)),o2.2)))))
 (some (.inr s1.2))
instance (n:Za) (find0_:Za) (find1_:List Ze) (find2_:List Zc) (find3_:Int) (legs:Int) (y1:List ByteArray) (y2:Int):ZU (Z3 n find0_ find1_ find2_ find3_ legs y1 y2):=⟨fun s1=>(.un::.fn 238 [.rp [.sl (find0_.legs.map cLeg),.sl (find0_.off.map cInt),vi find0_.change],.rp [.sl (find1_.map Zr)],.rp [.sl (find2_.map Zg)],.rp [vi find3_]]::.un::.un::vi legs::.be 0 0 0::(U 5 (.ms 1::vi y2::.ms 2::vi s1.1::(U 110 [])))),fun s1=>[some ⟨35,3,[[.sl (n.legs.map cLeg),.sl (n.off.map cInt),vi n.change]]⟩,some ⟨9,1,y1.map cStr⟩,some ⟨3,1,s1.2.map cInt⟩]⟩
def Zap (n:Za) (find0_:Za) (find1_:List Ze) (find2_:List Zc) (find3_:Int) (from2_:ByteArray) (at3_:Int) (legs:Int):Option (List Int):=
 (ZR n).bind fun y1=>
 (Zu y1 from2_).bind fun y2=>
 cond (decide (y2<0))
 (some ([]))
 (cond (decide (100000<at3_))
 (some ([]))
 (cond (decide (legs<0))
 (some ([]))
 ((Zl (Zaw n find0_ find1_ find2_ find3_ at3_ legs y1 y2) NN (0,([]:List Int))).bind (fun o0=>
 (getI o0 y2).bind fun y3=>
 (Zl (Z3 n find0_ find1_ find2_ find3_ legs y1 y2) NN (0,(o0.set (Int.toNat y2) (if 0 > at3_ then 0 else at3_)))).bind (fun o1=>
 some o1)))))
instance (n:Za) (find0_:Za) (find1_:List Ze) (find2_:List Zc) (find3_:Int) (from2_:ByteArray) (at3_:Int) (legs:Int):CT Tryz.prog (Zap n find0_ find1_ find2_ find3_ from2_ at3_ legs):=⟨216,[.ag (Zm n),.fn 238 [.rp [.sl (find0_.legs.map cLeg),.sl (find0_.off.map cInt),vi find0_.change],.rp [.sl (find1_.map Zr)],.rp [.sl (find2_.map Zg)],.rp [vi find3_]],vs from2_,vi at3_,vi legs],[],fun r=>.ms 0,fun r=>[some ⟨3,1,r.map cInt⟩],fun H=>by replace H:=H0 H; unfold Zap at H; exact Zh Tryz.func216 rfl Tryz.ntmps216 Tryz.results216 fun Q hQ hQn=>wk3⟩
def ZaD (n:Za) (find0_:Za) (find1_:List Ze) (find2_:List Zc) (find3_:Int) (places:List ByteArray) (before:List Int) (from4_:ByteArray) (k:Int) (due:Int) (s0:Int):Option (Int ⊕ (Unit ⊕ (Ze × Bool))):=
 cond (decide (s0<(n.legs.length:Int)))
 ((getI n.legs s0).bind fun y1=>
 (Zu places y1.from_).bind fun y2=>
 (getI places k).bind fun y3=>
 cond (!decide (y1.to_=y3))
 (some (.inl (w64 (s0+1))))
 ((getI before y2).bind fun y4=>
 cond (decide (y4<0))
 (some (.inl (w64 (s0+1))))
 ((getI before y2).bind fun y5=>
 (ZcL n y5 (decide (y1.from_=from4_))).bind fun y6=>
 (ZbE s0 y6 find0_ find1_ find2_ find3_).bind fun y7=>
 cond y7.2
 ((ZL n y7.1).bind fun y8=>
 cond (decide (y8=due))
 (some (.inr (.inr (y7.1,true))))
 (some (.inl (w64 (s0+1)))))
 (some (.inl (w64 (s0+1)))))))
 (some (.inr (.inl ())))
instance (n:Za) (find0_:Za) (find1_:List Ze) (find2_:List Zc) (find3_:Int) (places:List ByteArray) (before:List Int) (from4_:ByteArray) (k:Int) (due:Int):ZU (ZaD n find0_ find1_ find2_ find3_ places before from4_ k due):=⟨fun s0=>(.un::.fn 238 [.rp [.sl (find0_.legs.map cLeg),.sl (find0_.off.map cInt),vi find0_.change],.rp [.sl (find1_.map Zr)],.rp [.sl (find2_.map Zg)],.rp [vi find3_]]::.sl (places.map cStr)::.sl (before.map cInt)::vs from4_::vi k::vi due::.be 0 0 0::(U 6 (.be 1 0 0::(U 7 (.sl (n.legs.map cLeg)::vi (n.legs.length:Int)::vi s0::(U 49 [])))))),fun s0=>[some ⟨35,3,[[.sl (n.legs.map cLeg),.sl (n.off.map cInt),vi n.change]]⟩,some ⟨55,2,[[vi 0,vi 0]]⟩]⟩
def ZcB (n:Za) (find0_:Za) (find1_:List Ze) (find2_:List Zc) (find3_:Int) (places:List ByteArray) (before:List Int) (from4_:ByteArray) (k:Int) (due:Int):Option (Ze × Bool):=
 (Zl (ZaD n find0_ find1_ find2_ find3_ places before from4_ k due) NN 0).bind (ZX (fun o0=>
 some ((⟨0,0⟩:Ze),false)) (fun r=>some r))
instance (n:Za) (find0_:Za) (find1_:List Ze) (find2_:List Zc) (find3_:Int) (places:List ByteArray) (before:List Int) (from4_:ByteArray) (k:Int) (due:Int):CT Tryz.prog (ZcB n find0_ find1_ find2_ find3_ places before from4_ k due):=⟨217,[.ag (Zm n),.fn 238 [.rp [.sl (find0_.legs.map cLeg),.sl (find0_.off.map cInt),vi find0_.change],.rp [.sl (find1_.map Zr)],.rp [.sl (find2_.map Zg)],.rp [vi find3_]],.sl (places.map cStr),.sl (before.map cInt),vs from4_,vi k,vi due],[],fun r=>.tu [.ag [vi r.1.leg,vi r.1.day],vb r.2],fun r=>[],fun H=>by replace H:=H0 H; unfold ZcB at H; exact Zh Tryz.func217 rfl Tryz.ntmps217 Tryz.results217 fun Q hQ hQn=>wk3⟩
def Zah (n:Za) (find0_:Za) (find1_:List Ze) (find2_:List Zc) (find3_:Int) (from2_:ByteArray) (at4_:Int) (y1:List ByteArray) (y2:Int) (s0:Int × (List (List Int))):Option ((Int × (List (List Int))) ⊕ ((List (List Int)) ⊕ ((List Ze) × Bool))):=
 cond (decide (s0.1≤(y1.length:Int)))
 ((Zap n find0_ find1_ find2_ find3_ from2_ at4_ s0.1).bind fun y3=>
 cond (decide ((y3.length:Int)=0))
 (some (.inr (.inr ([],false))))
 (cond (decide (y2<0))
 (some (.inr (.inr ([],false))))
 ((frz (.un::.fn 238 [.rp [.sl (find0_.legs.map cLeg),.sl (find0_.off.map cInt),vi find0_.change],.rp [.sl (find1_.map Zr)],.rp [.sl (find2_.map Zg)],.rp [vi find3_]]::vs from2_::.un::vi at4_::.be 0 0 0::(U 6 (.ms 1::vi y2::.ms 2::vi s0.1::.sl (y3.map cInt)::(U 116 [])))) [some ⟨35,3,[[.sl (n.legs.map cLeg),.sl (n.off.map cInt),vi n.change]]⟩,some ⟨9,1,y1.map cStr⟩,some ⟨23,1,s0.2.map ZlU⟩]).bind fun _=>
 (chk (Z1 ((s0.2:List (List Int)).length+([y3]:List (List Int)).length) 24)).bind fun _=>
 some (.inl ((w64 (s0.1+1)),((s0.2:List (List Int))++[y3]))))))
 (some (.inr (.inl s0.2)))
instance (n:Za) (find0_:Za) (find1_:List Ze) (find2_:List Zc) (find3_:Int) (from2_:ByteArray) (at4_:Int) (y1:List ByteArray) (y2:Int):ZU (Zah n find0_ find1_ find2_ find3_ from2_ at4_ y1 y2):=⟨fun s0=>(.un::.fn 238 [.rp [.sl (find0_.legs.map cLeg),.sl (find0_.off.map cInt),vi find0_.change],.rp [.sl (find1_.map Zr)],.rp [.sl (find2_.map Zg)],.rp [vi find3_]]::vs from2_::.un::vi at4_::.be 0 0 0::(U 6 (.ms 1::vi y2::.ms 2::vi s0.1::(U 117 [])))),fun s0=>[some ⟨35,3,[[.sl (n.legs.map cLeg),.sl (n.off.map cInt),vi n.change]]⟩,some ⟨9,1,y1.map cStr⟩,some ⟨23,1,s0.2.map ZlU⟩]⟩
def ZaE (n:Za) (find0_:Za) (find1_:List Ze) (find2_:List Zc) (find3_:Int) (from2_:ByteArray) (y1:List ByteArray) (y2:Int) (o0:(List (List Int))) (y5:Int) (s1:Int):Option (Int ⊕ Int):=
 (getI o0 s1).bind fun y6=>
 (getI y6 y2).bind fun y7=>
 cond (!decide (y7=y5))
 (some (.inl (w64 (s1+1))))
 (some (.inr s1))
instance (n:Za) (find0_:Za) (find1_:List Ze) (find2_:List Zc) (find3_:Int) (from2_:ByteArray) (y1:List ByteArray) (y2:Int) (o0:(List (List Int))) (y5:Int):ZU (ZaE n find0_ find1_ find2_ find3_ from2_ y1 y2 o0 y5):=⟨fun s1=>(.un::.fn 238 [.rp [.sl (find0_.legs.map cLeg),.sl (find0_.off.map cInt),vi find0_.change],.rp [.sl (find1_.map Zr)],.rp [.sl (find2_.map Zg)],.rp [vi find3_]]::vs from2_::.un::.un::.be 0 0 0::(U 6 (.ms 1::vi y2::.ms 2::.un::.un::vi y5::vi s1::(U 114 [])))),fun s1=>[some ⟨35,3,[[.sl (n.legs.map cLeg),.sl (n.off.map cInt),vi n.change]]⟩,some ⟨9,1,y1.map cStr⟩,some ⟨23,1,o0.map ZlU⟩]⟩
def Zbu (n:Za) (find0_:Za) (find1_:List Ze) (find2_:List Zc) (find3_:Int) (from2_:ByteArray) (y1:List ByteArray) (o0:(List (List Int))) (s2:Int × Int × Int × (List Ze)):Option ((Int × Int × Int × (List Ze)) ⊕ ((List Ze) ⊕ ((List Ze) × Bool))):=
 cond (decide (0<s2.2.2.1))
 ((getI o0 (w64 (s2.2.2.1-1))).bind fun y8=>
 (ZcB n find0_ find1_ find2_ find3_ (y1:List ByteArray) y8 from2_ s2.1 s2.2.1).bind fun y9=>
 cond (!y9.2)
 (some (.inr (.inr ([],false))))
 ((chk (Z1 ((s2.2.2.2:List Ze).length+([y9.1]:List Ze).length) 16)).bind fun _=>
 (getI n.legs y9.1.leg).bind fun y10=>
 (Zu (y1:List ByteArray) y10.from_).bind fun y11=>
 (getI o0 (w64 (s2.2.2.1-1))).bind fun y12=>
 (getI y12 y11).bind fun y13=>
 some (.inl (y11,y13,(w64 (s2.2.2.1-1)),((s2.2.2.2:List Ze)++[y9.1])))))
 (some (.inr (.inl s2.2.2.2)))
instance (n:Za) (find0_:Za) (find1_:List Ze) (find2_:List Zc) (find3_:Int) (from2_:ByteArray) (y1:List ByteArray) (o0:(List (List Int))):ZU (Zbu n find0_ find1_ find2_ find3_ from2_ y1 o0):=⟨fun s2=>(.un::.fn 238 [.rp [.sl (find0_.legs.map cLeg),.sl (find0_.off.map cInt),vi find0_.change],.rp [.sl (find1_.map Zr)],.rp [.sl (find2_.map Zg)],.rp [vi find3_]]::vs from2_::.un::.un::.be 0 0 0::(U 6 (.sl ((y1:List ByteArray).map cStr)::vi s2.1::.ms 1::.un::.un::vi s2.2.1::vi s2.2.2.1::.ms 2::(U 113 [])))),fun s2=>[some ⟨35,3,[[.sl (n.legs.map cLeg),.sl (n.off.map cInt),vi n.change]]⟩,some ⟨23,1,o0.map ZlU⟩,some ⟨55,2,s2.2.2.2.map Zr⟩]⟩
def Zbv (o2:(List Ze)) (s3:Int × (List Ze)):Option ((Int × (List Ze)) ⊕ (List Ze)):=
 cond (decide (0≤s3.1))
 ((getI o2 s3.1).bind fun y14=>
 (chk (Z1 ((s3.2:List Ze).length+([y14]:List Ze).length) 16)).bind fun _=>
 some (.inl ((w64 (s3.1-1)),((s3.2:List Ze)++[y14]))))
 (some (.inr s3.2))
instance (o2:(List Ze)):ZU (Zbv o2):=⟨fun s3=>(U 19 (.ms 0::.un::.un::.ms 1::vi s3.1::(U 109 []))),fun s3=>[some ⟨55,2,o2.map Zr⟩,some ⟨55,2,s3.2.map Zr⟩]⟩
def Zez (n:Za) (find0_:Za) (find1_:List Ze) (find2_:List Zc) (find3_:Int) (from2_:ByteArray) (to_:ByteArray) (at4_:Int):Option ((List Ze) × Bool):=
 (ZR n).bind fun y1=>
 (Zu y1 to_).bind fun y2=>
 (Zl (Zah n find0_ find1_ find2_ find3_ from2_ at4_ y1 y2) NN (0,([]:List (List Int)))).bind (ZX (fun o0=>
 (getI o0 (y1.length:Int)).bind fun y4=>
 (getI y4 y2).bind fun y5=>
 cond (decide (y5<0))
 (some ([],false))
 ((Zl (ZaE n find0_ find1_ find2_ find3_ from2_ y1 y2 o0 y5) NN 0).bind (fun o1=>
 (Zl (Zbu n find0_ find1_ find2_ find3_ from2_ y1 o0) NN (y2,y5,o1,([]:List Ze))).bind (ZX (fun o2=>
 (Zl (Zbv o2) NN ((w64 ((o2.length:Int)-1)),([]:List Ze))).bind (fun o3=>
 some (o3,true))) (fun r=>some r))))) (fun r=>some r))
instance (n:Za) (find0_:Za) (find1_:List Ze) (find2_:List Zc) (find3_:Int) (from2_:ByteArray) (to_:ByteArray) (at4_:Int):CT Tryz.prog (Zez n find0_ find1_ find2_ find3_ from2_ to_ at4_):=⟨151,[.ag (Zm n),.fn 238 [.rp [.sl (find0_.legs.map cLeg),.sl (find0_.off.map cInt),vi find0_.change],.rp [.sl (find1_.map Zr)],.rp [.sl (find2_.map Zg)],.rp [vi find3_]],vs from2_,vs to_,vi at4_],[],fun r=>.tu [.ms 0,vb r.2],fun r=>[some ⟨55,2,r.1.map Zr⟩],fun H=>by replace H:=H0 H; unfold Zez at H; exact Zh Tryz.func151 rfl Tryz.ntmps151 Tryz.results151 fun Q hQ hQn=>wk3⟩
def ZfC (n:Za) (l:List Zc) (closed:List Ze) (weight:Int):Option (Za × (List Ze) × (List Zc) × Int):=
 some (n,closed,l,weight)
instance (n:Za) (l:List Zc) (closed:List Ze) (weight:Int):CT Tryz.prog (ZfC n l closed weight):=⟨199,[.ag (Zm n),.sl (l.map Zg),.sl (closed.map Zr),vi weight],[],fun r=>.fn 238 [.rp [.sl (r.1.legs.map cLeg),.sl (r.1.off.map cInt),vi r.1.change],.rp [.sl (r.2.1.map Zr)],.rp [.sl (r.2.2.1.map Zg)],.rp [vi r.2.2.2]],fun r=>[],fun H=>by replace H:=H0 H; unfold ZfC at H; exact Zh Tryz.func199 rfl Tryz.ntmps199 Tryz.results199 fun Q hQ hQn=>wk3⟩
def ZdR (n:Za) (l:List Zc) (closed:List Ze) (from3_:ByteArray) (to_:ByteArray) (at5_:Int) (weight:Int):Option ((List Ze) × Bool):=
 (ZbK n l).bind fun y1=>
 cond (!y1)
 (some ([],false))
 (cond (decide (weight<1))
 (some ([],false))
 ((ZfC n l closed weight).bind fun y2=>
 (Zez n y2.1 y2.2.1 y2.2.2.1 y2.2.2.2 from3_ to_ at5_).bind fun y3=>
 some (y3.1,y3.2)))
instance (n:Za) (l:List Zc) (closed:List Ze) (from3_:ByteArray) (to_:ByteArray) (at5_:Int) (weight:Int):CT Tryz.prog (ZdR n l closed from3_ to_ at5_ weight):=⟨134,[.ag (Zm n),.sl (l.map Zg),.sl (closed.map Zr),vs from3_,vs to_,vi at5_,vi weight],[],fun r=>.tu [.ms 0,vb r.2],fun r=>[some ⟨55,2,r.1.map Zr⟩],fun H=>by replace H:=H0 H; unfold ZdR at H; exact Zh Tryz.func134 rfl Tryz.ntmps134 Tryz.results134 fun Q hQ hQn=>wk3⟩
end Go.Proofs.YtmcdjilbkmhfoaaGreat
namespace Go.Proofs.YtmcdjilbkmhfoaaGreat
set_option maxRecDepth 10000
open Go.RowKit
set_option linter.unusedVariables false
set_option linter.unusedSimpArgs false
set_option linter.unusedSectionVars false
theorem ZoO:@ZcL=@Z8:=rfl
def sumM {σ ο ο':Type} (h:ο→ο'):σ ⊕ ο→σ ⊕ ο'
 | .inl s=>.inl s
 | .inr o=>.inr (h o)
theorem Zmd {σ ο ο':Type} {b1:σ→Option (σ ⊕ ο)} {b2:σ→Option (σ ⊕ ο')} (h:ο→ο') (hb:∀ s,b2 s=(b1 s).map (sumM h)):∀ (N:Nat) (s:σ),Zl b2 N s=(Zl b1 N s).map h
 | 0,s=>rfl
 | N+1,s=>by
  have ih:=Zmd h hb N
  unfold Zl
  rw [hb s]
  cases h1:b1 s with
  | none=>rfl
  | some r=>
   cases r with
   | inl s'=>exact ih s'
   | inr o=>rfl
theorem Zqm {α β γ:Type} (x:Option α) (f:α→Option β) (g:β→γ):(x.bind f).map g=x.bind fun a=>(f a).map g:=by cases x <;> rfl
theorem Zqt {β γ:Type} (b:Bool) (x y:Option β) (g:β→γ):(cond b x y).map g=cond b (x.map g) (y.map g):=by cases b <;> rfl
def Zuk (leg:Int):Unit ⊕ Int→Unit ⊕ (Ze × Bool)
 | .inl u=>.inl u
 | .inr d=>.inr ((⟨leg,d⟩:Ze),true)
section
variable {n:Za} (hf:ZV n)
include hf
theorem ZqG (l:List Zc) (closed:List Ze) (leg at_ weight:Int) (s:Int):Za6 leg at_ n closed l weight s=(Z0 n l closed leg at_ weight s).map (sumM (Zuk leg)):=by
 unfold Za6 Z0
 rw [(Zfu hf leg s).1,Ze2,Zh3,Zdf]
 simp only [Zqt,Zqm,Option.map_some,sumM,Zuk]
theorem ZqH {l:List Zc} (hl:l.length≤1048576) {closed:List Ze} (hc:closed.length≤1048576) {leg:Int} {y:YLeg} (hy:getI n.legs leg=some y) (at_ weight:Int):
 ∃ d,Z5 n l closed leg at_ weight=some d∧ZbE leg at_ n closed l weight=some (if d<0 then ((⟨0,0⟩:Ze),false) else ((⟨leg,d⟩:Ze),true)):=by
 have hl0:Tot (Zl (Z0 n l closed leg at_ weight) NN 0) fun r=>∀ d,r=.inr d→0≤d:=by
  refine Tot.loop (fun k s=>∃ i:Nat,s=(i:Int)∧i+k=61) (fun k s hs=>?_) NN 61 0 ⟨0,rfl,rfl⟩ (by unfold NN; omega)
  obtain ⟨i,rfl,hk⟩:=hs
  unfold Z0
  refine Tot.cond (fun hd=>?_) fun hd=>Tot.ret (fun d h=>by cases h)
  have hi:=of_decide_eq_true hd
  have hw:w64 ((i:Int)+1)=((i+1:Nat):Int):=by rw [Zp (by omega)]; omega
  have go:Zgu (fun k (s:Int)=>∃ i:Nat,s=(i:Int)∧i+k=61) (fun r:Unit ⊕ Int=>∀ d,r=.inr d→0≤d) k (Sum.inl (w64 ((i:Int)+1))):=⟨k-1,by omega,i+1,hw,by omega⟩
  obtain ⟨b,hb⟩:=ZrL hf leg (i:Int)
  obtain ⟨v,hv⟩:=Zd4 (n:=n) (t:=⟨leg,(i:Int)⟩) hy
  obtain ⟨q,hq⟩:=ZgC hl (⟨leg,(i:Int)⟩:Ze)
  rw [hb,Option.bind_some]
  refine Tot.cond (fun _=>?_) fun _=>Tot.ret go
  rw [hv,Option.bind_some]
  refine Tot.cond (fun _=>?_) fun _=>Tot.ret go
  rw [Zdf,ZdP hc,Option.bind_some]
  refine Tot.cond (fun _=>?_) fun _=>Tot.ret go
  rw [hy,Option.bind_some,hq,Option.bind_some]
  exact Tot.cond (fun _=>Tot.ret (fun d h=>by cases h; omega)) fun _=>Tot.ret go
 obtain ⟨r,e,hr⟩:=hl0
 have e2:=Zmd (Zuk leg) (ZqG hf l closed leg at_ weight) NN (0:Int)
 rw [e] at e2
 unfold Z5 ZbE
 rw [e,e2]
 cases r with
 | inl u=>exact ⟨-1,rfl,rfl⟩
 | inr d=>exact ⟨d,rfl,by rw [if_neg (by have:=hr d rfl; omega)]; rfl⟩
theorem ZsO {l:List Zc} (hl:l.length≤1048576) {closed:List Ze} (hc:closed.length≤1048576) (weight legs f:Int) {best:List Int} (hb:best.length=(Zb n).length) (k:Int) {lst:List Int} (hlst:lst.length=(Zb n).length) (ch:Bool) {i:Nat} (hi:i<n.legs.length):
 ∃ lst' ch',ZaJ n l closed weight (Zb n) best f ((i:Int),lst)=some (.inl (((i+1:Nat):Int),lst'))∧Z4 n n closed l weight legs (Zb n) f (k,best) ((i:Int),ch,lst)=some (.inl (((i+1:Nat):Int),ch',lst'))∧lst'.length=(Zb n).length∧((ch'=ch∧lst'=lst)∨ch'=true):=by
 have hp:=plen hf
 have hll:=hf.legs
 have hw:w64 ((i:Int)+1)=((i+1:Nat):Int):=by rw [Zp (by omega)]; omega
 obtain ⟨y,hy,hm⟩:=ZaS (xs:=n.legs) (i:=(i:Int)) ⟨by omega,by omega⟩
 obtain ⟨m1,m2⟩:=ZdQ hm
 have a0:=Zcc m1
 have a1:=(ZcQ (Zb n) y.from_).2
 have b0:=Zcc m2
 have b1:=(ZcQ (Zb n) y.to_).2
 obtain ⟨v6,g6,_⟩:=ZaS (xs:=best) (i:=idxV (Zb n) y.from_) ⟨a0,by omega⟩
 obtain ⟨v11,g11,_⟩:=ZaS (xs:=lst) (i:=idxV (Zb n) y.to_) ⟨b0,by omega⟩
 obtain ⟨z,ez,_⟩:=Zfp (n:=n) v6 (decide (idxV (Zb n) y.from_=f))
 obtain ⟨d,ed,ef⟩:=ZqH hf hl hc hy z weight
 obtain ⟨e,he⟩:=Zcv (n:=n) (t:=⟨(i:Int),d⟩) hy
 unfold ZaJ Z4
 have hpa:∀ p,Zu (Zb n) p=some (idxV (Zb n) p):=fun p=>by rw [Zc9]; exact ZeE hf p
 simp only [decide_eq_true (show (i:Int)<n.legs.length by omega),cond_true,hy,Option.bind_some,ZeE hf,hpa,g6,hw,ZoO,ez,ed,ef,g11,Zgx]
 by_cases hu:v6<0
 ·simp only [decide_eq_true hu,cond_true]
  exact ⟨lst,ch,rfl,rfl,hlst,.inl ⟨rfl,rfl⟩⟩
 simp only [decide_eq_false hu,cond_false]
 by_cases hd:d<0
 ·simp only [decide_eq_true hd,cond_true,if_pos hd,cond_false]
  exact ⟨lst,ch,rfl,rfl,hlst,.inl ⟨rfl,rfl⟩⟩
 simp only [decide_eq_false hd,cond_false,if_neg hd,cond_true,he,Option.bind_some]
 by_cases h1:v11<0
 ·simp only [decide_eq_true h1,cond_true]
  exact ⟨_,true,rfl,rfl,by rw [List.length_set]; exact hlst,.inr rfl⟩
 simp only [decide_eq_false h1,cond_false]
 by_cases h2:e<v11
 ·simp only [decide_eq_true h2,cond_true]
  exact ⟨_,true,rfl,rfl,by rw [List.length_set]; exact hlst,.inr rfl⟩
 ·simp only [decide_eq_false h2,cond_false]
  exact ⟨lst,ch,rfl,rfl,hlst,.inl ⟨rfl,rfl⟩⟩
theorem Zpl {l:List Zc} (hl:l.length≤1048576) {closed:List Ze} (hc:closed.length≤1048576) (weight legs f:Int) {best:List Int} (hb:best.length=(Zb n).length) (hbl:best.length≤1048576) (k:Int):
 ∃ r ch,Zan n l closed weight (Zb n) best f=some r∧Zl (Z4 n n closed l weight legs (Zb n) f (k,best)) NN (0,false,best)=some (ch,r)∧r.length=(Zb n).length∧(ch=false→r=best):=by
 have hll:=hf.legs
 have key:∀ (d i:Nat),i+d=n.legs.length→∀ (lst:List Int) (ch:Bool),lst.length=(Zb n).length→(ch=false→lst=best)→∀ N,d<N→
  ∃ r ch',Zl (ZaJ n l closed weight (Zb n) best f) N ((i:Int),lst)=some r∧Zl (Z4 n n closed l weight legs (Zb n) f (k,best)) N ((i:Int),ch,lst)=some (ch',r)∧r.length=(Zb n).length∧(ch'=false→r=best):=by
  intro d
  induction d with
  | zero=>
   intro i hi lst ch h1 h2 N hN
   obtain ⟨N,rfl⟩:∃ M,N=M+1:=⟨N-1,by omega⟩
   have hnot:¬ (i:Int)<n.legs.length:=by omega
   refine ⟨lst,ch,?_,?_,h1,h2⟩
   ·unfold Zl ZaJ
    simp only [decide_eq_false hnot,cond_false]; rfl
   ·unfold Zl Z4
    simp only [decide_eq_false hnot,cond_false]; rfl
  | succ d ih=>
   intro i hi lst ch h1 h2 N hN
   obtain ⟨N,rfl⟩:∃ M,N=M+1:=⟨N-1,by omega⟩
   obtain ⟨lst',ch',e1,e2,h3,h4⟩:=ZsO hf hl hc weight legs f hb k h1 ch (show i<n.legs.length by omega)
   obtain ⟨r,c,q1,q2,q3,q4⟩:=ih (i+1) (by omega) lst' ch' h3 (fun h=>by
    rcases h4 with ⟨a,b⟩ | a
    ·rw [b]; exact h2 (a ▸ h)
    ·rw [a] at h; cases h) N (by omega)
   refine ⟨r,c,?_,?_,q3,q4⟩
   ·unfold Zl; rw [e1]; exact q1
   ·unfold Zl; rw [e2]; exact q2
 obtain ⟨r,ch,q1,q2,q3,q4⟩:=key n.legs.length 0 (by omega) best false hb (fun _=>rfl) NN (by unfold NN; omega)
 have e0:((0:Nat):Int)=0:=rfl
 rw [e0] at q1 q2
 refine ⟨r,ch,?_,q2,q3,q4⟩
 unfold Zan
 rw [ZjU hbl,Option.bind_some,q1]; rfl
omit hf in
theorem ZkD {l:List Zc} {closed:List Ze} {weight f at_:Int} {i:Nat} (h:Z7 n l closed weight f at_ (i+1)=Z7 n l closed weight f at_ i):∀ k,Z7 n l closed weight f at_ (i+k)=Z7 n l closed weight f at_ i
 | 0=>rfl
 | k+1=>by
  have ih:=ZkD h k
  have e1:Z7 n l closed weight f at_ (i+(k+1))=ZoR n l closed weight f (Z7 n l closed weight f at_ (i+k)):=rfl
  have e2:Z7 n l closed weight f at_ (i+1)=ZoR n l closed weight f (Z7 n l closed weight f at_ i):=rfl
  rw [e1,ih,← e2,h]
theorem Zpr {l:List Zc} (hl:l.length≤1048576) {closed:List Ze} (hc:closed.length≤1048576) (weight f at_:Int) (hp:(Zb n).length≤1048576) (legs:Nat) (hlegs:legs≤1048576):
 Zl (Z3 n n closed l weight (legs:Int) (Zb n) f) NN (0,Z7 n l closed weight f at_ 0)=some (Z7 n l closed weight f at_ legs):=by
 have key:∀ (d i:Nat),i+d=legs→∀ N,d<N→Zl (Z3 n n closed l weight (legs:Int) (Zb n) f) N ((i:Int),Z7 n l closed weight f at_ i)=some (Z7 n l closed weight f at_ legs):=by
  intro d
  induction d with
  | zero=>
   intro i hi N hN
   obtain ⟨N,rfl⟩:∃ M,N=M+1:=⟨N-1,by omega⟩
   have:i=legs:=by omega
   subst this
   unfold Zl Z3
   simp only [decide_eq_false (show ¬ (i:Int)<(i:Int) by omega),cond_false]; rfl
  | succ d ih=>
   intro i hi N hN
   obtain ⟨N,rfl⟩:∃ M,N=M+1:=⟨N-1,by omega⟩
   have hbl:=ZeO hf hl hc weight f at_ i
   have hwi:w64 ((i:Int)+1)=((i+1:Nat):Int):=by rw [Zp (by omega)]; omega
   obtain ⟨r,ch,q1,q2,q3,q4⟩:=Zpl hf hl hc weight (legs:Int) f hbl (by omega) (i:Int)
   have hr:Z7 n l closed weight f at_ (i+1)=r:=by
    have:=(Zgd hf hl hc weight f at_ i).1
    rw [q1] at this
    exact (Option.some.inj this).symm
   have ha:chk (Z1 ((([]:List Int):List Int).length+(Z7 n l closed weight f at_ i).length) 8)=some ():=by
    simp only [List.length_nil]; exact chk0 (by omega) (by omega)
   have body:Z3 n n closed l weight (legs:Int) (Zb n) f ((i:Int),Z7 n l closed weight f at_ i)=(cond (!ch) (some (.inr r)) (some (.inl (((i+1:Nat):Int),r)))):=by
    unfold Z3
    simp only [decide_eq_true (show (i:Int)<(legs:Int) by omega),cond_true,ha,Option.bind_some,List.nil_append,q2,hwi]
   unfold Zl
   rw [body]
   cases ch with
   | false=>
    have e:=q4 rfl
    rw [← hr] at e
    have hconst:=ZkD e (d+1)
    rw [show i+(d+1)=legs by omega] at hconst
    show some r=_
    rw [← hr,e,hconst]
   | true=>
    rw [← hr]
    exact ih (i+1) (by omega) N (by omega)
 exact key legs 0 (by omega) NN (by unfold NN; omega)
theorem Znp (hp:(Zb n).length≤1048576) (f:Int) (hf0:0≤f∧f<((Zb n).length:Int)) (at_:Int):ZbC (Zb n) f at_=some ((List.replicate (Zb n).length (-1:Int)).set f.toNat (if 0 > at_ then 0 else at_)):=by
 have hmax:ZeI at_ 0=some (if 0 > at_ then 0 else at_):=by
  unfold ZeI
  by_cases h:at_<0
  ·rw [if_pos (by omega)]
   by_cases h2:0<at_
   ·omega
   ·simp [h2,h]
  ·rw [if_neg (by omega)]
   by_cases h2:0<at_
   ·simp [h2,h]
   ·have:at_=0:=by omega
    subst this; simp
 generalize hm:(if 0 > at_ then 0 else at_:Int)=mx at hmax ⊢
 have hLl:((List.replicate (Zb n).length (-1:Int)).set f.toNat mx).length=(Zb n).length:=by simp
 have hLi:∀ i:Nat,i<(Zb n).length→((List.replicate (Zb n).length (-1:Int)).set f.toNat mx)[i]?=some (if (i:Int)=f then mx else -1):=fun i hi=>by
  by_cases h:(i:Int)=f
  ·rw [if_pos h,show f.toNat=i by omega,List.getElem?_set_self (by simpa using hi)]
  ·rw [if_neg h,List.getElem?_set_ne (by omega),List.getElem?_replicate,if_pos hi]
 generalize (List.replicate (Zb n).length (-1:Int)).set f.toNat mx=L at hLl hLi ⊢
 have e:Zl (Zbx (Zb n) f at_) NN (0,[])=some L:=by
  have:=ZdJ (body:=Zbx (Zb n) f at_) (fun i:Nat=>((i:Int),L.take i)) (n:=(Zb n).length) (o:=L) (fun i hi=>?_) ?_ NN (by unfold NN; omega)
  ·simpa using this
  ·have hw:w64 ((i:Int)+1)=((i+1:Nat):Int):=by rw [Zp (by omega)]; omega
   have hx:=hLi i hi
   have hlen:(L.take i).length=i:=by rw [List.length_take]; omega
   have ha:∀ x:Int,chk (Z1 ((L.take i).length+([x]:List Int).length) 8)=some ():=fun x=>ZeD (by simp only [List.length_cons,List.length_nil]; omega) (by omega)
   unfold Zbx
   rw [← ZiF hx]
   by_cases h:(i:Int)=f
   ·simp only [decide_eq_true (show (i:Int)<((Zb n).length:Int) by omega),decide_eq_true h,cond_true,hmax,Option.bind_some,ha,hw,if_pos h]
   ·simp only [decide_eq_true (show (i:Int)<((Zb n).length:Int) by omega),decide_eq_false h,cond_true,cond_false,Option.bind_some,ha,hw,if_neg h]
  ·unfold Zbx
   simp [← hLl]
 unfold ZbC
 rw [e]; rfl
theorem ZkC {l:List Zc} (hl:l.length≤1048576) {closed:List Ze} (hc:closed.length≤1048576) (weight:Int) {from_:ByteArray} (h0:0≤idxV (Zb n) from_) {at_:Int} (hat:at_≤100000) (hp:(Zb n).length≤1048576) (legs:Nat) (hlegs:legs≤1048576):
 Zap n n closed l weight from_ at_ (legs:Int)=some (Z7 n l closed weight (idxV (Zb n) from_) at_ legs):=by
 have hlt:=(ZcQ (Zb n) from_).2
 have e0:Zl (Zaw n n closed l weight at_ (legs:Int) (Zb n) (idxV (Zb n) from_)) NN (0,[])=some (List.replicate (Zb n).length (-1:Int)):=by
  refine ZdJ (body:=Zaw n n closed l weight at_ (legs:Int) (Zb n) (idxV (Zb n) from_)) (fun i:Nat=>((i:Int),List.replicate i (-1:Int))) (n:=(Zb n).length) (o:=List.replicate (Zb n).length (-1:Int)) (fun i hi=>?_) ?_ NN (by unfold NN; omega)
  ·have hw:w64 ((i:Int)+1)=((i+1:Nat):Int):=by rw [Zp (by omega)]; omega
   have ha:chk (Z1 ((List.replicate i (-1:Int)).length+([(-1)]:List Int).length) 8)=some ():=ZeD (by simp only [List.length_replicate,List.length_cons,List.length_nil]; omega) (by omega)
   unfold Zaw
   simp only [decide_eq_true (show (i:Int)<((Zb n).length:Int) by omega),cond_true,ha,Option.bind_some,hw,List.replicate_succ']
  ·unfold Zaw
   simp
 have hfirst:Z7 n l closed weight (idxV (Zb n) from_) at_ 0=(List.replicate (Zb n).length (-1:Int)).set (idxV (Zb n) from_).toNat (if 0 > at_ then 0 else at_):=by
  unfold Z7; rw [Znp hf hp _ ⟨h0,hlt⟩]; rfl
 obtain ⟨x,hx,_⟩:=ZaS (xs:=List.replicate (Zb n).length (-1:Int)) (i:=idxV (Zb n) from_) ⟨h0,by rw [List.length_replicate]; exact hlt⟩
 unfold Zap
 rw [Zc9,(ZT hf).1,(ZT hf).2]
 simp only [Option.bind_some,ZeE hf,decide_eq_false (show ¬ idxV (Zb n) from_<0 by omega),decide_eq_false (show ¬ 100000<at_ by omega),decide_eq_false (show ¬ (legs:Int)<0 by omega),cond_false,e0,hx,← hfirst,Zpr hf hl hc weight _ at_ hp legs hlegs]
end
end Go.Proofs.YtmcdjilbkmhfoaaGreat
