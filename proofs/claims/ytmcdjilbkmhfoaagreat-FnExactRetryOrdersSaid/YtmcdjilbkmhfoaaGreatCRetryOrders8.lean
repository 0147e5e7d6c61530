/- A part of the proof of the statement in the last file of this claim: texts on the language of the program and on its functions. No condition. -/
import Derived.Test.YtmcdjilbkmhfoaaGreatCRetryOrders7
import Derived.Test.YtmcdjilbkmhfoaaGreatCRetryOrders4
import Derived.Test.YtmcdjilbkmhfoaaGreatCRetryOrders5
import Derived.Sort.Walk0
import Derived.Test.YtmcdjilbkmhfoaaGreatCRetryOrders6
set_option linter.unusedVariables false
set_option linter.unusedSimpArgs false
namespace Go.Proofs.YtmcdjilbkmhfoaaGreat
set_option maxRecDepth 10000
open Go.RowKit Go.Maps Go.WideMaps Go.Sort
set_option linter.unusedVariables false
set_option linter.unusedSimpArgs false
instance:Enc YLeg where
 cells x:=[.string x.from_,.string x.to_,I x.start,I x.takes,I x.days,I x.room]
 k:=6
 len _:=rfl
 pos:=by decide
 one:=by simp [Value.oneCell',I]
theorem Rd.leg {w:World} {B:Nat} {A:Option Addr} {xs:List YLeg} {i:Nat} {x:YLeg} (h:Rd w B A xs) (hx:xs[i]?=some x):
 ∃ b off,A=some ⟨b,off,none⟩∧b<B∧w.cell? ⟨b,off+i*6,none⟩=some (.string x.from_)∧w.cell? ⟨b,off+i*6+1,none⟩=some (.string x.to_)∧w.cell? ⟨b,off+i*6+2,none⟩=some (I x.start)∧w.cell? ⟨b,off+i*6+3,none⟩=some (I x.takes)∧w.cell? ⟨b,off+i*6+4,none⟩=some (I x.days)∧w.cell? ⟨b,off+i*6+5,none⟩=some (I x.room):=by
 obtain ⟨b,off,e,hb,hc⟩:=h.at_ hx
 exact ⟨b,off,e,hb,hc 0 _ rfl,hc 1 _ rfl,hc 2 _ rfl,hc 3 _ rfl,hc 4 _ rfl,hc 5 _ rfl⟩
theorem ZoO:(Tryz.prog.info? 9).map (fun i=>(i.zero,i.size,i.bytes))=some (some (Value.string ⟨#[]⟩),1,16):=by kernel_rfl
theorem Ze4:ElT Tryz.prog 81 9 (Enc.k ByteArray) 16:=ElT.mk' Tryz.underlying81 ZoO rfl
theorem ZY (w:World):(zeroValue 4).run Tryz.prog w=.ok (.bool false) w:=by kernel_rfl
def nmI (legs:List YLeg) (i:Nat):List ByteArray:=(legs.take i).foldl (fun out l=>dd (dd out l.from_) l.to_) []
theorem Zo4 {legs:List YLeg} {i:Nat} {x:YLeg} (hx:legs[i]?=some x):nmI legs (i+1)=dd (dd (nmI legs i) x.from_) x.to_:=by
 unfold nmI
 rw [Zmi hx]
theorem ZpN (out:List ByteArray) (s:ByteArray):(dd out s).length≤out.length+1:=by unfold dd; split <;> simp
theorem ZnQ (legs:List YLeg) (i:Nat):(nmI legs i).length≤2*i:=by
 have h:∀ (b:List YLeg) (out:List ByteArray),(b.foldl (fun out l=>dd (dd out l.from_) l.to_) out).length≤out.length+2*b.length:=by
  intro b
  induction b with
  | nil=>intro out; simp
  | cons x b ih=>
   intro out
   have h1:=ih (dd (dd out x.from_) x.to_)
   have h2:=ZpN (dd out x.from_) x.to_
   have h3:=ZpN out x.from_
   simp only [List.foldl_cons,List.length_cons]
   omega
 have h1:=h (legs.take i) []
 have h2:(legs.take i).length≤i:=List.length_take_le _ _
 simp only [List.length_nil] at h1
 unfold nmI
 omega
theorem ZkT (g cp n B:Nat) (zs:List ByteArray) (w:World) (ho:Own w B 9 (.slice (some ⟨g,0,none⟩) n cp) zs) (hl:n=zs.length) (hn:n≤4194304):
 Calls Tryz.prog 206 #[.slice (some ⟨g,0,none⟩) n cp] w fun e w'=>e=.returned (.tuple #[])∧Own w' B 9 (.slice (some ⟨g,0,none⟩) n cp) (srtS zs)∧w.grownBy w' (some g):=by
 subst hl
 rcases ho.2 with ⟨h0,_⟩ | ⟨g',cap',cur,hv,hB,hg,hnc,hcm,hcs,ht⟩
 ·cases h0
 ·obtain ⟨rfl,rfl⟩:g=g'∧cp=cap':=by simpa using hv
  have hss:(zs.map fun b:ByteArray=>b.data.toList).length=zs.length:=by simp
  have ht':cur.toList.take (zs.map fun b:ByteArray=>b.data.toList).length=(zs.map fun b:ByteArray=>b.data.toList).map encStr:=by
   have:=ht
   rw [show Enc.k ByteArray=1 from rfl,Nat.mul_one,Zjr] at this
   rw [hss,this,List.map_map]
   apply List.map_congr_left
   intro b _
   rfl
  have hH:=holds_of_block hg ht'
  have key:=Tryz.sort_Strings g 0 cp _ w hH (Array.getElem?_eq_some_iff.1 hg).1 (by rw [hss]; omega)
  rw [hss] at key
  refine key.mono ?_
  rintro e w' ⟨rfl,m,os,rfl⟩
  have hs:=ownsRow_sorted (n:=m) (os:=os) (ss:=zs.map fun b:ByteArray=>b.data.toList) (ts:=(zs.map fun b:ByteArray=>b.data.toList).mergeSort fun x y=>decide (x≤y)) (by simp) hB hg (by simpa using hnc) hcm hcs
  refine ⟨rfl,?_,grownBy_sorted _⟩
  unfold Own
  rw [Zl3,Zjr]
  rw [hss] at hs
  have e2:(srtS zs).map Value.string=((zs.map fun b:ByteArray=>b.data.toList).mergeSort fun x y=>decide (x≤y)).map encStr:=by
   unfold srtS; rw [List.map_map]; rfl
  rw [e2]
  exact hs
set_option maxRecDepth 100000 in
theorem ZkQ (A:Option Addr) (legs:List YLeg) (n c:Nat) (v2 v3:Value) (w:World) (hr:Rd w w.heap.size A legs) (hl:n=legs.length) (hc:legs.length≤c) (hn:n≤1048576) (hs:∀ l∈legs,l.from_.size≤maxLen∧l.to_.size≤maxLen):
 Calls Tryz.prog 141 #[.agg #[.slice A n c,v2,v3]] w fun e w'=>∃ v,e=.returned v∧Own w' w.heap.size 9 v (srtS (nmI legs legs.length))∧Up w w':=by
 subst hl
 have hmm:=@run_makeMap Tryz.prog
 go_enter Tryz.func141,Tryz.ntmps141
 go_wp2
 go_loopw [4,14] (fun v i wr=>∃ j g cp:Nat,j≤legs.length∧i=.int .i64 j∧v=.slice (some ⟨g,0,none⟩) (nmI legs j).length cp∧Own wr (w.heap.size+2) 9 (.slice (some ⟨g,0,none⟩) (nmI legs j).length cp) (nmI legs j)∧SetM Tryz.prog 9 4 wr (w.heap.size+1) (2*j) (nmI legs j)∧Up w wr) (fun _ i _=>legs.length-(intOf i).toNat)
 case atStart=>exact ⟨0,w.heap.size+1+1,0,by omega,rfl,rfl,by have h_:=Own.empty (α:=ByteArray) ((w.alloc (.cells #[.slice A legs.length c,v2,v3] 35)).alloc (.map #[] 0)) (w.heap.size+2) 9 0 #[] (by simp) (by unfold maxLen; omega) rfl; simpa [nmI] using h_,by have h_:=(SetM.made (P:=Tryz.prog) (k:=9) (e:=4) (w.alloc (.cells #[.slice A legs.length c,v2,v3] 35))).alloc (.cells #[] 9); simpa [nmI] using h_,by (repeat (first | exact Up.rfl' _ | (refine Up.al _ ?_) | (refine Up.dr _ ?_) | (refine Up.dr1 ?_) | (refine Up.sc ?_ (by first | exact Nat.le_refl _ | (simp; done) | omega) _) | (refine Up.step (by assumption) ?_)))⟩
 case round=>
  obtain ⟨i,g3,c3',hi,rfl,rfl,ho,hset,hb⟩:=hrel
  by_cases hlt:i<legs.length
  ·obtain ⟨x,hx⟩:=Zhr hlt
   obtain ⟨b,off,rfl,hbb,c0,c1,c2,c3,c4,c5⟩:=(hr.below hb).leg hx
   have hlen:=ZnQ legs i
   obtain ⟨hs1,hs2⟩:=hs x (List.mem_of_getElem? hx)
   have hgl:=World.ownsRow.lt ho g3 rfl
   have HO:=Lib.hid ho
   have HS:=Lib.hid hset
   clear ho hset
   go_wp2_with fail
   generalize hwb:(wr.alloc _).alloc _=wb
   have d0:wb.cell? ⟨wr.heap.size+1,0,none⟩=some (.string x.from_):=by rw [← hwb]; simp [go_sem]
   have d1:wb.cell? ⟨wr.heap.size+1,1,none⟩=some (.string x.to_):=by rw [← hwb]; simp [go_sem]
   have hub:Up wr wb:=by rw [← hwb]; (repeat (first | exact Up.rfl' _ | (refine Up.al _ ?_) | (refine Up.dr _ ?_) | (refine Up.dr1 ?_) | (refine Up.sc ?_ (by first | exact Nat.le_refl _ | (simp; done) | omega) _) | (refine Up.step (by assumption) ?_)))
   have hsz:wr.heap.size+2≤wb.heap.size:=by rw [← hwb]; simp
   have HS0:Hid (SetM Tryz.prog 9 4 wb (w.heap.size+1) (2*i) (nmI legs i)):=Lib.hid (by rw [← hwb]; exact (HS.out.alloc _).alloc _)
   have HO0:=Lib.hid (HO.out.up hub)
   have hb0:Up w wb:=Up.step hub hb
   clear hwb c0 c1 c2 c3 c4 c5 HS HO
   have hw0:=hb.size
   have hx1:=Zo4 hx
   have hc0:=hb0
   cases h1:inL (nmI legs i) x.from_ with
   | false=>
    cases h2:inL (nmI legs i++[x.from_]) x.to_ with
    | false=>
     refine wp_loop_rounds 3 ?_
     rw [rounds_succ]
     go_wp2_with (first | (at_builtin; (have ho_:=HP2.out); go_loud (refine ZB Ze4 rfl (.tmp 34) (.tmp 36) rfl (base:=w.heap.size+2) (ys:=(nmI legs i++[x.from_])) (xs:=[x.to_]) (by rfl) (ho_.up (by (repeat (first | exact Up.rfl' _ | (refine Up.al _ ?_) | (refine Up.dr _ ?_) | (refine Up.dr1 ?_) | (refine Up.sc ?_ (by first | exact Nat.le_refl _ | (simp; done) | omega) _) | (refine Up.step (by assumption) ?_))))) 1 (by rfl) rfl (Rd.oneAt _ _ (x.to_) _ (by simp)) (by simp; omega) (by unfold maxLen; simp; omega) (by simp; omega) ?_); intro v2 w2 ho2 hg_ _ hu_; go_loud (have HS2:=Lib.hid ((HT2.out.alloc _).kept hg_ (by intro hh; have h_:=World.ownsRow.lt ho_ _ hh.symm; omega)); have hc2:Up w w2:=Below.grown (Up.al _ hd2) hg_ (by simp; omega) (fun k e=>by have h_:=World.ownsRow.lt ho_ _ e; omega); have hz2b:w2a.heap.size+1≤w2.heap.size:=(by have h_:=hg_.size; simpa using h_); have HO2:=Lib.hid ho2); clear ho2 ho_ hg_ hu_ HT2 HP2) | (at_mapUpdate; (have h_:=HS1.out); go_loud (refine ZC _ rfl _ _ _ 207 rfl 9 4 Tryz.underlying9 Tryz.underlying207 Tryz.underlying4 (w.heap.size+1) (2*i+1) (nmI legs i++[x.from_]) rfl HS1.out (by unfold maxLen; omega) _ rfl rfl hs2 ?_); intro w2a hs_ hg_; go_loud (have HT2:=Lib.hid hs_; clear hs_; have HP2:=Lib.hid (HO1.out.grown hg_ (.inr (by intro hh; have h_:=World.ownsRow.lt HO1.out _ hh; omega))); have hd2:Up w w2a:=Below.grown hc1 hg_ hc1.size (fun k e=>by cases e; omega); have hz2:=hg_.size; have hp2:=Nat.le_trans hc1.size hg_.size); clear hg_) | (at_lookup; have h_:=HS1.out; (refine Zf _ rfl _ _ 207 rfl 9 4 Tryz.underlying9 Tryz.underlying207 Tryz.underlying4 ZY (w.heap.size+1) (2*i+1) (nmI legs i++[x.from_]) rfl HS1.out _ rfl hs2 _ h2 ?_)) | (at_builtin; (have ho_:=HP1.out); go_loud (refine ZB Ze4 rfl (.tmp 34) (.tmp 36) rfl (base:=w.heap.size+2) (ys:=(nmI legs i)) (xs:=[x.from_]) (by rfl) (ho_.up (by (repeat (first | exact Up.rfl' _ | (refine Up.al _ ?_) | (refine Up.dr _ ?_) | (refine Up.dr1 ?_) | (refine Up.sc ?_ (by first | exact Nat.le_refl _ | (simp; done) | omega) _) | (refine Up.step (by assumption) ?_))))) 1 (by rfl) rfl (Rd.oneAt _ _ (x.from_) _ (by simp)) (by simp; omega) (by unfold maxLen; simp; omega) (by simp; omega) ?_); intro v1 w1 ho1 hg_ _ hu_; go_loud (have HS1:=Lib.hid ((HT1.out.alloc _).kept hg_ (by intro hh; have h_:=World.ownsRow.lt ho_ _ hh.symm; omega)); have hc1:Up w w1:=Below.grown (Up.al _ hd1) hg_ (by simp; omega) (fun k e=>by have h_:=World.ownsRow.lt ho_ _ e; omega); have d2:=(ZbI hg_ (by simp; omega) (by intro hh; have h3_:wr.heap.size+1=g3:=Option.some.inj hh; omega)).trans (Zgt dz1); have hz1b:w1a.heap.size+1≤w1.heap.size:=(by have h_:=hg_.size; simpa using h_); have HO1:=Lib.hid ho1); clear ho1 ho_ hg_ hu_ HT1 HP1) | (at_mapUpdate; (have h_:=HS0.out); go_loud (refine ZC _ rfl _ _ _ 207 rfl 9 4 Tryz.underlying9 Tryz.underlying207 Tryz.underlying4 (w.heap.size+1) (2*i) (nmI legs i) rfl HS0.out (by unfold maxLen; omega) _ rfl rfl hs1 ?_); intro w1a hs_ hg_; go_loud (have HT1:=Lib.hid hs_; clear hs_; have HP1:=Lib.hid (HO0.out.grown hg_ (.inr (by intro hh; have h_:=World.ownsRow.lt HO0.out _ hh; omega))); have hd1:Up w w1a:=Below.grown hc0 hg_ hc0.size (fun k e=>by cases e; omega); have hz1:=hg_.size; have dz1:=(ZbI hg_ (by omega) (by intro hh; injection hh with hh; omega)).trans d1; have hp1:=Nat.le_trans hc0.size hg_.size); clear hg_) | (at_lookup; have h_:=HS0.out; (refine Zf _ rfl _ _ 207 rfl 9 4 Tryz.underlying9 Tryz.underlying207 Tryz.underlying4 ZY (w.heap.size+1) (2*i) (nmI legs i) rfl HS0.out _ rfl hs1 _ h1 ?_)))
     rw [rounds_succ]
     go_wp2_with (first | (at_builtin; (have ho_:=HP2.out); go_loud (refine ZB Ze4 rfl (.tmp 34) (.tmp 36) rfl (base:=w.heap.size+2) (ys:=(nmI legs i++[x.from_])) (xs:=[x.to_]) (by rfl) (ho_.up (by (repeat (first | exact Up.rfl' _ | (refine Up.al _ ?_) | (refine Up.dr _ ?_) | (refine Up.dr1 ?_) | (refine Up.sc ?_ (by first | exact Nat.le_refl _ | (simp; done) | omega) _) | (refine Up.step (by assumption) ?_))))) 1 (by rfl) rfl (Rd.oneAt _ _ (x.to_) _ (by simp)) (by simp; omega) (by unfold maxLen; simp; omega) (by simp; omega) ?_); intro v2 w2 ho2 hg_ _ hu_; go_loud (have HS2:=Lib.hid ((HT2.out.alloc _).kept hg_ (by intro hh; have h_:=World.ownsRow.lt ho_ _ hh.symm; omega)); have hc2:Up w w2:=Below.grown (Up.al _ hd2) hg_ (by simp; omega) (fun k e=>by have h_:=World.ownsRow.lt ho_ _ e; omega); have hz2b:w2a.heap.size+1≤w2.heap.size:=(by have h_:=hg_.size; simpa using h_); have HO2:=Lib.hid ho2); clear ho2 ho_ hg_ hu_ HT2 HP2) | (at_mapUpdate; (have h_:=HS1.out); go_loud (refine ZC _ rfl _ _ _ 207 rfl 9 4 Tryz.underlying9 Tryz.underlying207 Tryz.underlying4 (w.heap.size+1) (2*i+1) (nmI legs i++[x.from_]) rfl HS1.out (by unfold maxLen; omega) _ rfl rfl hs2 ?_); intro w2a hs_ hg_; go_loud (have HT2:=Lib.hid hs_; clear hs_; have HP2:=Lib.hid (HO1.out.grown hg_ (.inr (by intro hh; have h_:=World.ownsRow.lt HO1.out _ hh; omega))); have hd2:Up w w2a:=Below.grown hc1 hg_ hc1.size (fun k e=>by cases e; omega); have hz2:=hg_.size; have hp2:=Nat.le_trans hc1.size hg_.size); clear hg_) | (at_lookup; have h_:=HS1.out; (refine Zf _ rfl _ _ 207 rfl 9 4 Tryz.underlying9 Tryz.underlying207 Tryz.underlying4 ZY (w.heap.size+1) (2*i+1) (nmI legs i++[x.from_]) rfl HS1.out _ rfl hs2 _ h2 ?_)) | (at_builtin; (have ho_:=HP1.out); go_loud (refine ZB Ze4 rfl (.tmp 34) (.tmp 36) rfl (base:=w.heap.size+2) (ys:=(nmI legs i)) (xs:=[x.from_]) (by rfl) (ho_.up (by (repeat (first | exact Up.rfl' _ | (refine Up.al _ ?_) | (refine Up.dr _ ?_) | (refine Up.dr1 ?_) | (refine Up.sc ?_ (by first | exact Nat.le_refl _ | (simp; done) | omega) _) | (refine Up.step (by assumption) ?_))))) 1 (by rfl) rfl (Rd.oneAt _ _ (x.from_) _ (by simp)) (by simp; omega) (by unfold maxLen; simp; omega) (by simp; omega) ?_); intro v1 w1 ho1 hg_ _ hu_; go_loud (have HS1:=Lib.hid ((HT1.out.alloc _).kept hg_ (by intro hh; have h_:=World.ownsRow.lt ho_ _ hh.symm; omega)); have hc1:Up w w1:=Below.grown (Up.al _ hd1) hg_ (by simp; omega) (fun k e=>by have h_:=World.ownsRow.lt ho_ _ e; omega); have d2:=(ZbI hg_ (by simp; omega) (by intro hh; have h3_:wr.heap.size+1=g3:=Option.some.inj hh; omega)).trans (Zgt dz1); have hz1b:w1a.heap.size+1≤w1.heap.size:=(by have h_:=hg_.size; simpa using h_); have HO1:=Lib.hid ho1); clear ho1 ho_ hg_ hu_ HT1 HP1) | (at_mapUpdate; (have h_:=HS0.out); go_loud (refine ZC _ rfl _ _ _ 207 rfl 9 4 Tryz.underlying9 Tryz.underlying207 Tryz.underlying4 (w.heap.size+1) (2*i) (nmI legs i) rfl HS0.out (by unfold maxLen; omega) _ rfl rfl hs1 ?_); intro w1a hs_ hg_; go_loud (have HT1:=Lib.hid hs_; clear hs_; have HP1:=Lib.hid (HO0.out.grown hg_ (.inr (by intro hh; have h_:=World.ownsRow.lt HO0.out _ hh; omega))); have hd1:Up w w1a:=Below.grown hc0 hg_ hc0.size (fun k e=>by cases e; omega); have hz1:=hg_.size; have dz1:=(ZbI hg_ (by omega) (by intro hh; injection hh with hh; omega)).trans d1; have hp1:=Nat.le_trans hc0.size hg_.size); clear hg_) | (at_lookup; have h_:=HS0.out; (refine Zf _ rfl _ _ 207 rfl 9 4 Tryz.underlying9 Tryz.underlying207 Tryz.underlying4 ZY (w.heap.size+1) (2*i) (nmI legs i) rfl HS0.out _ rfl hs1 _ h1 ?_)))
     rw [rounds_succ]
     go_wp2_with (first | (at_builtin; (have ho_:=HP2.out); go_loud (refine ZB Ze4 rfl (.tmp 34) (.tmp 36) rfl (base:=w.heap.size+2) (ys:=(nmI legs i++[x.from_])) (xs:=[x.to_]) (by rfl) (ho_.up (by (repeat (first | exact Up.rfl' _ | (refine Up.al _ ?_) | (refine Up.dr _ ?_) | (refine Up.dr1 ?_) | (refine Up.sc ?_ (by first | exact Nat.le_refl _ | (simp; done) | omega) _) | (refine Up.step (by assumption) ?_))))) 1 (by rfl) rfl (Rd.oneAt _ _ (x.to_) _ (by simp)) (by simp; omega) (by unfold maxLen; simp; omega) (by simp; omega) ?_); intro v2 w2 ho2 hg_ _ hu_; go_loud (have HS2:=Lib.hid ((HT2.out.alloc _).kept hg_ (by intro hh; have h_:=World.ownsRow.lt ho_ _ hh.symm; omega)); have hc2:Up w w2:=Below.grown (Up.al _ hd2) hg_ (by simp; omega) (fun k e=>by have h_:=World.ownsRow.lt ho_ _ e; omega); have hz2b:w2a.heap.size+1≤w2.heap.size:=(by have h_:=hg_.size; simpa using h_); have HO2:=Lib.hid ho2); clear ho2 ho_ hg_ hu_ HT2 HP2) | (at_mapUpdate; (have h_:=HS1.out); go_loud (refine ZC _ rfl _ _ _ 207 rfl 9 4 Tryz.underlying9 Tryz.underlying207 Tryz.underlying4 (w.heap.size+1) (2*i+1) (nmI legs i++[x.from_]) rfl HS1.out (by unfold maxLen; omega) _ rfl rfl hs2 ?_); intro w2a hs_ hg_; go_loud (have HT2:=Lib.hid hs_; clear hs_; have HP2:=Lib.hid (HO1.out.grown hg_ (.inr (by intro hh; have h_:=World.ownsRow.lt HO1.out _ hh; omega))); have hd2:Up w w2a:=Below.grown hc1 hg_ hc1.size (fun k e=>by cases e; omega); have hz2:=hg_.size; have hp2:=Nat.le_trans hc1.size hg_.size); clear hg_) | (at_lookup; have h_:=HS1.out; (refine Zf _ rfl _ _ 207 rfl 9 4 Tryz.underlying9 Tryz.underlying207 Tryz.underlying4 ZY (w.heap.size+1) (2*i+1) (nmI legs i++[x.from_]) rfl HS1.out _ rfl hs2 _ h2 ?_)) | (at_builtin; (have ho_:=HP1.out); go_loud (refine ZB Ze4 rfl (.tmp 34) (.tmp 36) rfl (base:=w.heap.size+2) (ys:=(nmI legs i)) (xs:=[x.from_]) (by rfl) (ho_.up (by (repeat (first | exact Up.rfl' _ | (refine Up.al _ ?_) | (refine Up.dr _ ?_) | (refine Up.dr1 ?_) | (refine Up.sc ?_ (by first | exact Nat.le_refl _ | (simp; done) | omega) _) | (refine Up.step (by assumption) ?_))))) 1 (by rfl) rfl (Rd.oneAt _ _ (x.from_) _ (by simp)) (by simp; omega) (by unfold maxLen; simp; omega) (by simp; omega) ?_); intro v1 w1 ho1 hg_ _ hu_; go_loud (have HS1:=Lib.hid ((HT1.out.alloc _).kept hg_ (by intro hh; have h_:=World.ownsRow.lt ho_ _ hh.symm; omega)); have hc1:Up w w1:=Below.grown (Up.al _ hd1) hg_ (by simp; omega) (fun k e=>by have h_:=World.ownsRow.lt ho_ _ e; omega); have d2:=(ZbI hg_ (by simp; omega) (by intro hh; have h3_:wr.heap.size+1=g3:=Option.some.inj hh; omega)).trans (Zgt dz1); have hz1b:w1a.heap.size+1≤w1.heap.size:=(by have h_:=hg_.size; simpa using h_); have HO1:=Lib.hid ho1); clear ho1 ho_ hg_ hu_ HT1 HP1) | (at_mapUpdate; (have h_:=HS0.out); go_loud (refine ZC _ rfl _ _ _ 207 rfl 9 4 Tryz.underlying9 Tryz.underlying207 Tryz.underlying4 (w.heap.size+1) (2*i) (nmI legs i) rfl HS0.out (by unfold maxLen; omega) _ rfl rfl hs1 ?_); intro w1a hs_ hg_; go_loud (have HT1:=Lib.hid hs_; clear hs_; have HP1:=Lib.hid (HO0.out.grown hg_ (.inr (by intro hh; have h_:=World.ownsRow.lt HO0.out _ hh; omega))); have hd1:Up w w1a:=Below.grown hc0 hg_ hc0.size (fun k e=>by cases e; omega); have hz1:=hg_.size; have dz1:=(ZbI hg_ (by omega) (by intro hh; injection hh with hh; omega)).trans d1; have hp1:=Nat.le_trans hc0.size hg_.size); clear hg_) | (at_lookup; have h_:=HS0.out; (refine Zf _ rfl _ _ 207 rfl 9 4 Tryz.underlying9 Tryz.underlying207 Tryz.underlying4 ZY (w.heap.size+1) (2*i) (nmI legs i) rfl HS0.out _ rfl hs1 _ h1 ?_)))
     have hfin:nmI legs (i+1)=(nmI legs i++[x.from_]++[x.to_]):=by rw [hx1]; simp [dd,h1,h2]
     have hoF:=HO2.out
     obtain ⟨g4,c4,hv4,_⟩:=World.ownsRow.form hoF (by simp)
     exact ⟨⟨i+1,g4,c4,by omega,by go_num,by rw [hfin]; exact hv4,by rw [hfin,← hv4]; exact hoF,by rw [hfin]; exact HS2.out.mono (by omega),hc2⟩,by simp [intOf]; omega⟩
    | true=>
     refine wp_loop_rounds 3 ?_
     rw [rounds_succ]
     go_wp2_with (first | (at_lookup; have h_:=HS1.out; (refine Zf _ rfl _ _ 207 rfl 9 4 Tryz.underlying9 Tryz.underlying207 Tryz.underlying4 ZY (w.heap.size+1) (2*i+1) (nmI legs i++[x.from_]) rfl HS1.out _ rfl hs2 _ h2 ?_)) | (at_builtin; (have ho_:=HP1.out); go_loud (refine ZB Ze4 rfl (.tmp 34) (.tmp 36) rfl (base:=w.heap.size+2) (ys:=(nmI legs i)) (xs:=[x.from_]) (by rfl) (ho_.up (by (repeat (first | exact Up.rfl' _ | (refine Up.al _ ?_) | (refine Up.dr _ ?_) | (refine Up.dr1 ?_) | (refine Up.sc ?_ (by first | exact Nat.le_refl _ | (simp; done) | omega) _) | (refine Up.step (by assumption) ?_))))) 1 (by rfl) rfl (Rd.oneAt _ _ (x.from_) _ (by simp)) (by simp; omega) (by unfold maxLen; simp; omega) (by simp; omega) ?_); intro v1 w1 ho1 hg_ _ hu_; go_loud (have HS1:=Lib.hid ((HT1.out.alloc _).kept hg_ (by intro hh; have h_:=World.ownsRow.lt ho_ _ hh.symm; omega)); have hc1:Up w w1:=Below.grown (Up.al _ hd1) hg_ (by simp; omega) (fun k e=>by have h_:=World.ownsRow.lt ho_ _ e; omega); have d2:=(ZbI hg_ (by simp; omega) (by intro hh; have h3_:wr.heap.size+1=g3:=Option.some.inj hh; omega)).trans (Zgt dz1); have hz1b:w1a.heap.size+1≤w1.heap.size:=(by have h_:=hg_.size; simpa using h_); have HO1:=Lib.hid ho1); clear ho1 ho_ hg_ hu_ HT1 HP1) | (at_mapUpdate; (have h_:=HS0.out); go_loud (refine ZC _ rfl _ _ _ 207 rfl 9 4 Tryz.underlying9 Tryz.underlying207 Tryz.underlying4 (w.heap.size+1) (2*i) (nmI legs i) rfl HS0.out (by unfold maxLen; omega) _ rfl rfl hs1 ?_); intro w1a hs_ hg_; go_loud (have HT1:=Lib.hid hs_; clear hs_; have HP1:=Lib.hid (HO0.out.grown hg_ (.inr (by intro hh; have h_:=World.ownsRow.lt HO0.out _ hh; omega))); have hd1:Up w w1a:=Below.grown hc0 hg_ hc0.size (fun k e=>by cases e; omega); have hz1:=hg_.size; have dz1:=(ZbI hg_ (by omega) (by intro hh; injection hh with hh; omega)).trans d1; have hp1:=Nat.le_trans hc0.size hg_.size); clear hg_) | (at_lookup; have h_:=HS0.out; (refine Zf _ rfl _ _ 207 rfl 9 4 Tryz.underlying9 Tryz.underlying207 Tryz.underlying4 ZY (w.heap.size+1) (2*i) (nmI legs i) rfl HS0.out _ rfl hs1 _ h1 ?_)))
     rw [rounds_succ]
     go_wp2_with (first | (at_lookup; have h_:=HS1.out; (refine Zf _ rfl _ _ 207 rfl 9 4 Tryz.underlying9 Tryz.underlying207 Tryz.underlying4 ZY (w.heap.size+1) (2*i+1) (nmI legs i++[x.from_]) rfl HS1.out _ rfl hs2 _ h2 ?_)) | (at_builtin; (have ho_:=HP1.out); go_loud (refine ZB Ze4 rfl (.tmp 34) (.tmp 36) rfl (base:=w.heap.size+2) (ys:=(nmI legs i)) (xs:=[x.from_]) (by rfl) (ho_.up (by (repeat (first | exact Up.rfl' _ | (refine Up.al _ ?_) | (refine Up.dr _ ?_) | (refine Up.dr1 ?_) | (refine Up.sc ?_ (by first | exact Nat.le_refl _ | (simp; done) | omega) _) | (refine Up.step (by assumption) ?_))))) 1 (by rfl) rfl (Rd.oneAt _ _ (x.from_) _ (by simp)) (by simp; omega) (by unfold maxLen; simp; omega) (by simp; omega) ?_); intro v1 w1 ho1 hg_ _ hu_; go_loud (have HS1:=Lib.hid ((HT1.out.alloc _).kept hg_ (by intro hh; have h_:=World.ownsRow.lt ho_ _ hh.symm; omega)); have hc1:Up w w1:=Below.grown (Up.al _ hd1) hg_ (by simp; omega) (fun k e=>by have h_:=World.ownsRow.lt ho_ _ e; omega); have d2:=(ZbI hg_ (by simp; omega) (by intro hh; have h3_:wr.heap.size+1=g3:=Option.some.inj hh; omega)).trans (Zgt dz1); have hz1b:w1a.heap.size+1≤w1.heap.size:=(by have h_:=hg_.size; simpa using h_); have HO1:=Lib.hid ho1); clear ho1 ho_ hg_ hu_ HT1 HP1) | (at_mapUpdate; (have h_:=HS0.out); go_loud (refine ZC _ rfl _ _ _ 207 rfl 9 4 Tryz.underlying9 Tryz.underlying207 Tryz.underlying4 (w.heap.size+1) (2*i) (nmI legs i) rfl HS0.out (by unfold maxLen; omega) _ rfl rfl hs1 ?_); intro w1a hs_ hg_; go_loud (have HT1:=Lib.hid hs_; clear hs_; have HP1:=Lib.hid (HO0.out.grown hg_ (.inr (by intro hh; have h_:=World.ownsRow.lt HO0.out _ hh; omega))); have hd1:Up w w1a:=Below.grown hc0 hg_ hc0.size (fun k e=>by cases e; omega); have hz1:=hg_.size; have dz1:=(ZbI hg_ (by omega) (by intro hh; injection hh with hh; omega)).trans d1; have hp1:=Nat.le_trans hc0.size hg_.size); clear hg_) | (at_lookup; have h_:=HS0.out; (refine Zf _ rfl _ _ 207 rfl 9 4 Tryz.underlying9 Tryz.underlying207 Tryz.underlying4 ZY (w.heap.size+1) (2*i) (nmI legs i) rfl HS0.out _ rfl hs1 _ h1 ?_)))
     rw [rounds_succ]
     go_wp2_with (first | (at_lookup; have h_:=HS1.out; (refine Zf _ rfl _ _ 207 rfl 9 4 Tryz.underlying9 Tryz.underlying207 Tryz.underlying4 ZY (w.heap.size+1) (2*i+1) (nmI legs i++[x.from_]) rfl HS1.out _ rfl hs2 _ h2 ?_)) | (at_builtin; (have ho_:=HP1.out); go_loud (refine ZB Ze4 rfl (.tmp 34) (.tmp 36) rfl (base:=w.heap.size+2) (ys:=(nmI legs i)) (xs:=[x.from_]) (by rfl) (ho_.up (by (repeat (first | exact Up.rfl' _ | (refine Up.al _ ?_) | (refine Up.dr _ ?_) | (refine Up.dr1 ?_) | (refine Up.sc ?_ (by first | exact Nat.le_refl _ | (simp; done) | omega) _) | (refine Up.step (by assumption) ?_))))) 1 (by rfl) rfl (Rd.oneAt _ _ (x.from_) _ (by simp)) (by simp; omega) (by unfold maxLen; simp; omega) (by simp; omega) ?_); intro v1 w1 ho1 hg_ _ hu_; go_loud (have HS1:=Lib.hid ((HT1.out.alloc _).kept hg_ (by intro hh; have h_:=World.ownsRow.lt ho_ _ hh.symm; omega)); have hc1:Up w w1:=Below.grown (Up.al _ hd1) hg_ (by simp; omega) (fun k e=>by have h_:=World.ownsRow.lt ho_ _ e; omega); have d2:=(ZbI hg_ (by simp; omega) (by intro hh; have h3_:wr.heap.size+1=g3:=Option.some.inj hh; omega)).trans (Zgt dz1); have hz1b:w1a.heap.size+1≤w1.heap.size:=(by have h_:=hg_.size; simpa using h_); have HO1:=Lib.hid ho1); clear ho1 ho_ hg_ hu_ HT1 HP1) | (at_mapUpdate; (have h_:=HS0.out); go_loud (refine ZC _ rfl _ _ _ 207 rfl 9 4 Tryz.underlying9 Tryz.underlying207 Tryz.underlying4 (w.heap.size+1) (2*i) (nmI legs i) rfl HS0.out (by unfold maxLen; omega) _ rfl rfl hs1 ?_); intro w1a hs_ hg_; go_loud (have HT1:=Lib.hid hs_; clear hs_; have HP1:=Lib.hid (HO0.out.grown hg_ (.inr (by intro hh; have h_:=World.ownsRow.lt HO0.out _ hh; omega))); have hd1:Up w w1a:=Below.grown hc0 hg_ hc0.size (fun k e=>by cases e; omega); have hz1:=hg_.size; have dz1:=(ZbI hg_ (by omega) (by intro hh; injection hh with hh; omega)).trans d1; have hp1:=Nat.le_trans hc0.size hg_.size); clear hg_) | (at_lookup; have h_:=HS0.out; (refine Zf _ rfl _ _ 207 rfl 9 4 Tryz.underlying9 Tryz.underlying207 Tryz.underlying4 ZY (w.heap.size+1) (2*i) (nmI legs i) rfl HS0.out _ rfl hs1 _ h1 ?_)))
     have hfin:nmI legs (i+1)=(nmI legs i++[x.from_]):=by rw [hx1]; simp [dd,h1,h2]
     have hoF:=HO1.out
     obtain ⟨g4,c4,hv4,_⟩:=World.ownsRow.form hoF (by simp)
     exact ⟨⟨i+1,g4,c4,by omega,by go_num,by rw [hfin]; exact hv4,by rw [hfin,← hv4]; exact hoF,by rw [hfin]; exact HS1.out.mono (by omega),hc1⟩,by simp [intOf]; omega⟩
   | true=>
    cases h2:inL (nmI legs i) x.to_ with
    | false=>
     refine wp_loop_rounds 3 ?_
     rw [rounds_succ]
     go_wp2_with (first | (at_lookup; have h_:=HS0.out; (refine Zf _ rfl _ _ 207 rfl 9 4 Tryz.underlying9 Tryz.underlying207 Tryz.underlying4 ZY (w.heap.size+1) (2*i) (nmI legs i) rfl HS0.out _ rfl hs1 _ h1 ?_)) | (at_lookup; have h_:=HS0.out; (refine Zf _ rfl _ _ 207 rfl 9 4 Tryz.underlying9 Tryz.underlying207 Tryz.underlying4 ZY (w.heap.size+1) (2*i) (nmI legs i) rfl HS0.out _ rfl hs2 _ h2 ?_)) | (at_mapUpdate; (have h_:=HS0.out); go_loud (refine ZC _ rfl _ _ _ 207 rfl 9 4 Tryz.underlying9 Tryz.underlying207 Tryz.underlying4 (w.heap.size+1) (2*i) (nmI legs i) rfl HS0.out (by unfold maxLen; omega) _ rfl rfl hs2 ?_); intro w2a hs_ hg_; go_loud (have HT2:=Lib.hid hs_; clear hs_; have HP2:=Lib.hid (HO0.out.grown hg_ (.inr (by intro hh; have h_:=World.ownsRow.lt HO0.out _ hh; omega))); have hd2:Up w w2a:=Below.grown hc0 hg_ hc0.size (fun k e=>by cases e; omega); have hz2:=hg_.size; have hp2:=Nat.le_trans hc0.size hg_.size); clear hg_) | (at_builtin; (have ho_:=HP2.out); go_loud (refine ZB Ze4 rfl (.tmp 34) (.tmp 36) rfl (base:=w.heap.size+2) (ys:=(nmI legs i)) (xs:=[x.to_]) (by rfl) (ho_.up (by (repeat (first | exact Up.rfl' _ | (refine Up.al _ ?_) | (refine Up.dr _ ?_) | (refine Up.dr1 ?_) | (refine Up.sc ?_ (by first | exact Nat.le_refl _ | (simp; done) | omega) _) | (refine Up.step (by assumption) ?_))))) 1 (by rfl) rfl (Rd.oneAt _ _ (x.to_) _ (by simp)) (by simp; omega) (by unfold maxLen; simp; omega) (by simp; omega) ?_); intro v2 w2 ho2 hg_ _ hu_; go_loud (have HS2:=Lib.hid ((HT2.out.alloc _).kept hg_ (by intro hh; have h_:=World.ownsRow.lt ho_ _ hh.symm; omega)); have hc2:Up w w2:=Below.grown (Up.al _ hd2) hg_ (by simp; omega) (fun k e=>by have h_:=World.ownsRow.lt ho_ _ e; omega); have hz2b:w2a.heap.size+1≤w2.heap.size:=(by have h_:=hg_.size; simpa using h_); have HO2:=Lib.hid ho2); clear ho2 ho_ hg_ hu_ HT2 HP2))
     rw [rounds_succ]
     go_wp2_with (first | (at_lookup; have h_:=HS0.out; (refine Zf _ rfl _ _ 207 rfl 9 4 Tryz.underlying9 Tryz.underlying207 Tryz.underlying4 ZY (w.heap.size+1) (2*i) (nmI legs i) rfl HS0.out _ rfl hs1 _ h1 ?_)) | (at_lookup; have h_:=HS0.out; (refine Zf _ rfl _ _ 207 rfl 9 4 Tryz.underlying9 Tryz.underlying207 Tryz.underlying4 ZY (w.heap.size+1) (2*i) (nmI legs i) rfl HS0.out _ rfl hs2 _ h2 ?_)) | (at_mapUpdate; (have h_:=HS0.out); go_loud (refine ZC _ rfl _ _ _ 207 rfl 9 4 Tryz.underlying9 Tryz.underlying207 Tryz.underlying4 (w.heap.size+1) (2*i) (nmI legs i) rfl HS0.out (by unfold maxLen; omega) _ rfl rfl hs2 ?_); intro w2a hs_ hg_; go_loud (have HT2:=Lib.hid hs_; clear hs_; have HP2:=Lib.hid (HO0.out.grown hg_ (.inr (by intro hh; have h_:=World.ownsRow.lt HO0.out _ hh; omega))); have hd2:Up w w2a:=Below.grown hc0 hg_ hc0.size (fun k e=>by cases e; omega); have hz2:=hg_.size; have hp2:=Nat.le_trans hc0.size hg_.size); clear hg_) | (at_builtin; (have ho_:=HP2.out); go_loud (refine ZB Ze4 rfl (.tmp 34) (.tmp 36) rfl (base:=w.heap.size+2) (ys:=(nmI legs i)) (xs:=[x.to_]) (by rfl) (ho_.up (by (repeat (first | exact Up.rfl' _ | (refine Up.al _ ?_) | (refine Up.dr _ ?_) | (refine Up.dr1 ?_) | (refine Up.sc ?_ (by first | exact Nat.le_refl _ | (simp; done) | omega) _) | (refine Up.step (by assumption) ?_))))) 1 (by rfl) rfl (Rd.oneAt _ _ (x.to_) _ (by simp)) (by simp; omega) (by unfold maxLen; simp; omega) (by simp; omega) ?_); intro v2 w2 ho2 hg_ _ hu_; go_loud (have HS2:=Lib.hid ((HT2.out.alloc _).kept hg_ (by intro hh; have h_:=World.ownsRow.lt ho_ _ hh.symm; omega)); have hc2:Up w w2:=Below.grown (Up.al _ hd2) hg_ (by simp; omega) (fun k e=>by have h_:=World.ownsRow.lt ho_ _ e; omega); have hz2b:w2a.heap.size+1≤w2.heap.size:=(by have h_:=hg_.size; simpa using h_); have HO2:=Lib.hid ho2); clear ho2 ho_ hg_ hu_ HT2 HP2))
     rw [rounds_succ]
     go_wp2_with (first | (at_lookup; have h_:=HS0.out; (refine Zf _ rfl _ _ 207 rfl 9 4 Tryz.underlying9 Tryz.underlying207 Tryz.underlying4 ZY (w.heap.size+1) (2*i) (nmI legs i) rfl HS0.out _ rfl hs1 _ h1 ?_)) | (at_lookup; have h_:=HS0.out; (refine Zf _ rfl _ _ 207 rfl 9 4 Tryz.underlying9 Tryz.underlying207 Tryz.underlying4 ZY (w.heap.size+1) (2*i) (nmI legs i) rfl HS0.out _ rfl hs2 _ h2 ?_)) | (at_mapUpdate; (have h_:=HS0.out); go_loud (refine ZC _ rfl _ _ _ 207 rfl 9 4 Tryz.underlying9 Tryz.underlying207 Tryz.underlying4 (w.heap.size+1) (2*i) (nmI legs i) rfl HS0.out (by unfold maxLen; omega) _ rfl rfl hs2 ?_); intro w2a hs_ hg_; go_loud (have HT2:=Lib.hid hs_; clear hs_; have HP2:=Lib.hid (HO0.out.grown hg_ (.inr (by intro hh; have h_:=World.ownsRow.lt HO0.out _ hh; omega))); have hd2:Up w w2a:=Below.grown hc0 hg_ hc0.size (fun k e=>by cases e; omega); have hz2:=hg_.size; have hp2:=Nat.le_trans hc0.size hg_.size); clear hg_) | (at_builtin; (have ho_:=HP2.out); go_loud (refine ZB Ze4 rfl (.tmp 34) (.tmp 36) rfl (base:=w.heap.size+2) (ys:=(nmI legs i)) (xs:=[x.to_]) (by rfl) (ho_.up (by (repeat (first | exact Up.rfl' _ | (refine Up.al _ ?_) | (refine Up.dr _ ?_) | (refine Up.dr1 ?_) | (refine Up.sc ?_ (by first | exact Nat.le_refl _ | (simp; done) | omega) _) | (refine Up.step (by assumption) ?_))))) 1 (by rfl) rfl (Rd.oneAt _ _ (x.to_) _ (by simp)) (by simp; omega) (by unfold maxLen; simp; omega) (by simp; omega) ?_); intro v2 w2 ho2 hg_ _ hu_; go_loud (have HS2:=Lib.hid ((HT2.out.alloc _).kept hg_ (by intro hh; have h_:=World.ownsRow.lt ho_ _ hh.symm; omega)); have hc2:Up w w2:=Below.grown (Up.al _ hd2) hg_ (by simp; omega) (fun k e=>by have h_:=World.ownsRow.lt ho_ _ e; omega); have hz2b:w2a.heap.size+1≤w2.heap.size:=(by have h_:=hg_.size; simpa using h_); have HO2:=Lib.hid ho2); clear ho2 ho_ hg_ hu_ HT2 HP2))
     have hfin:nmI legs (i+1)=(nmI legs i++[x.to_]):=by rw [hx1]; simp [dd,h1,h2]
     have hoF:=HO2.out
     obtain ⟨g4,c4,hv4,_⟩:=World.ownsRow.form hoF (by simp)
     exact ⟨⟨i+1,g4,c4,by omega,by go_num,by rw [hfin]; exact hv4,by rw [hfin,← hv4]; exact hoF,by rw [hfin]; exact HS2.out.mono (by omega),hc2⟩,by simp [intOf]; omega⟩
    | true=>
     refine wp_loop_rounds 3 ?_
     rw [rounds_succ]
     go_wp2_with (first | (at_lookup; have h_:=HS0.out; (refine Zf _ rfl _ _ 207 rfl 9 4 Tryz.underlying9 Tryz.underlying207 Tryz.underlying4 ZY (w.heap.size+1) (2*i) (nmI legs i) rfl HS0.out _ rfl hs1 _ h1 ?_)) | (at_lookup; have h_:=HS0.out; (refine Zf _ rfl _ _ 207 rfl 9 4 Tryz.underlying9 Tryz.underlying207 Tryz.underlying4 ZY (w.heap.size+1) (2*i) (nmI legs i) rfl HS0.out _ rfl hs2 _ h2 ?_)))
     rw [rounds_succ]
     go_wp2_with (first | (at_lookup; have h_:=HS0.out; (refine Zf _ rfl _ _ 207 rfl 9 4 Tryz.underlying9 Tryz.underlying207 Tryz.underlying4 ZY (w.heap.size+1) (2*i) (nmI legs i) rfl HS0.out _ rfl hs1 _ h1 ?_)) | (at_lookup; have h_:=HS0.out; (refine Zf _ rfl _ _ 207 rfl 9 4 Tryz.underlying9 Tryz.underlying207 Tryz.underlying4 ZY (w.heap.size+1) (2*i) (nmI legs i) rfl HS0.out _ rfl hs2 _ h2 ?_)))
     rw [rounds_succ]
     go_wp2_with (first | (at_lookup; have h_:=HS0.out; (refine Zf _ rfl _ _ 207 rfl 9 4 Tryz.underlying9 Tryz.underlying207 Tryz.underlying4 ZY (w.heap.size+1) (2*i) (nmI legs i) rfl HS0.out _ rfl hs1 _ h1 ?_)) | (at_lookup; have h_:=HS0.out; (refine Zf _ rfl _ _ 207 rfl 9 4 Tryz.underlying9 Tryz.underlying207 Tryz.underlying4 ZY (w.heap.size+1) (2*i) (nmI legs i) rfl HS0.out _ rfl hs2 _ h2 ?_)))
     have hfin:nmI legs (i+1)=(nmI legs i):=by rw [hx1]; simp [dd,h1,h2]
     exact ⟨⟨i+1,g3,c3',by omega,by go_num,by rw [hfin],by rw [hfin]; exact HO0.out,by rw [hfin]; exact HS0.out.mono (by omega),hc0⟩,by simp [intOf]; omega⟩
  ·obtain rfl:i=legs.length:=by omega
   have hlen:=ZnQ legs legs.length
   go_wp2_with fail
   refine (ZkT g3 c3' _ _ (nmI legs legs.length) _ ho rfl (by omega)).mono ?_
   rintro e w1 ⟨rfl,ho1,hg1⟩
   have hu1:Up w w1:=Below.grown hb hg1 hb.size (fun k e=>by cases e; have h_:=World.ownsRow.lt ho g3 rfl; omega)
   go_wp2_with fail
   go_ret
   exact ⟨_,rfl,by simpa [Zl3] using ho1.more (by omega),hu1⟩
end Go.Proofs.YtmcdjilbkmhfoaaGreat
namespace Go.Proofs.YtmcdjilbkmhfoaaGreat
set_option maxRecDepth 10000
open Go.RowKit
set_option linter.unusedVariables false
set_option linter.unusedSimpArgs false
theorem ZjN {α:Type} [Enc α] {c:α→List PV} {T:TypeId} {S:Nat→Prop} {β:Nat→Option Blk} {w w':World} {v:Value} {ys:List α} {ω:Nat→Key→Prop} (hk:Ok w (own0 β) (E1 S β 0 ω) w []) (ho:Own w' w.heap.size T v ys) (hu:Up w w')
 (hc:∀ (x:α),(c x).length=Enc.k α∧∀ (j:Nat) (p:PV),(c x)[j]?=some p→∃ u,(Enc.cells x)[j]?=some u∧u.oneCell'=true∧∀ (w:World) (E:Env),Rep w E p u):
 ∃ E',Ok w (own0 β) E' w' [some ⟨T,Enc.k α,ys.map c⟩]∧(∀ b,S b→E'.S b)∧(∀ b,E'.S b→S b∨w.heap.size≤b∨own0 β b)∧((∀ l B,l<0→E'.β l=some B→β l=some B)∧∀ b q,E'.ω b q→ω b q∨w.heap.size≤b∨own0 β b)∧Rep w' E' (.ms 0) v:=by
 have hesl:∀ (i:Nat) (cs:List PV),(ys.map c)[i]?=some cs→cs.length=Enc.k α:=by
  intro i cs hi
  rw [List.getElem?_map] at hi
  obtain ⟨y,_,rfl⟩:=Option.map_eq_some_iff.1 hi
  exact (hc y).1
 have key:∀ (B:Blk),v=B.sv→v.oneCell'=true→(B.z=false→w.heap.size≤B.b∧B.b<w'.heap.size)→(∀ E,Zaz w' E ⟨T,Enc.k α,ys.map c⟩ B)→
  ∃ E',Ok w (own0 β) E' w' [some ⟨T,Enc.k α,ys.map c⟩]∧(∀ b,S b→E'.S b)∧(∀ b,E'.S b→S b∨w.heap.size≤b∨own0 β b)∧((∀ l B,l<0→E'.β l=some B→β l=some B)∧∀ b q,E'.ω b q→ω b q∨w.heap.size≤b∨own0 β b)∧Rep w' E' (.ms 0) v:=by
  intro B hv h1 hB hb
  obtain ⟨h2,_⟩:=hk.new (ν:=0) (fun h=>absurd h (Nat.not_lt_zero 0)) ⟨T,Enc.k α,ys.map c⟩ B hu.os hu.tape hu.output hu.size (fun b hb=>hu.block b hb) hB (fun _=>hb _)
  refine ⟨_,h2,fun b h=>h,fun b h=>.inl h,⟨fun l B h=>absurd h (Nat.not_lt_zero l),fun _ _ h=>.inl h⟩,.ms 0 v (.inl rfl) h1 fun B' hB'=>?_⟩
  have:B'=B:=by simpa [Env.add,eq_comm] using hB'
  rw [this]; exact hv
 rcases ho.2 with ⟨hv,h0⟩ | ⟨g,cap,cur,hv,hB,hg,hnc,hcm,hcs,ht⟩
 ·have hy:ys=[]:=List.length_eq_zero_iff.1 h0
  subst hy
  exact key ⟨0,0,0,Enc.k α,T,true⟩ (by rw [hv]; rfl) (by rw [hv]; rfl) (fun h=>by cases h) fun E=>⟨rfl,rfl,rfl,Enc.pos,Nat.le_refl _,Nat.zero_le _,hesl,fun _=>rfl,fun h=>(by cases h),fun _ h=>by cases h⟩
 ·refine key ⟨g,cap,ys.length,Enc.k α,T,false⟩ (by rw [hv]; rfl) (by rw [hv]; rfl) (fun _=>⟨hB,(Array.getElem?_eq_some_iff.1 hg).1⟩) fun E=>⟨rfl,by simp,rfl,Enc.pos,hnc,hcm,hesl,(fun h=>by cases h),fun _=>⟨cur,hg,hcs,fun i cs j p hi hj=>?_⟩,fun _ h=>by cases h⟩
  rw [List.getElem?_map] at hi
  obtain ⟨y,hy,rfl⟩:=Option.map_eq_some_iff.1 hi
  obtain ⟨hl,hcc⟩:=hc y
  obtain ⟨u,hu1,hu2,hu3⟩:=hcc j p hj
  refine ⟨u,?_,hu2,hu3 _ _⟩
  have hf:=Zfa hy hu1
  have hlt:=(List.getElem?_eq_some_iff.1 hf).1
  rw [Zds] at hlt
  have:=congrArg (fun l:List Value=>l[i*Enc.k α+j]?) ht
  have h2:(cur.toList.take (ys.length*Enc.k α))[i*Enc.k α+j]?=(flat ys)[i*Enc.k α+j]?:=this
  rw [List.getElem?_take_of_lt hlt,Array.getElem?_toList,hf] at h2
  exact h2
theorem ZnR (n:YNetwork):nmI n.legs n.legs.length=(Zc2 n).foldl dd []:=by
 have h:∀ (l:List YLeg) (acc:List ByteArray),l.foldl (fun out l=>dd (dd out l.from_) l.to_) acc=(l.flatMap fun l=>[l.from_,l.to_]).foldl dd acc:=by
  intro l
  induction l with
  | nil=>intro acc; rfl
  | cons x l ih=>intro acc; simp only [List.foldl_cons,List.flatMap_cons,List.foldl_append,List.foldl_nil,ih]
 unfold nmI Zc2
 rw [List.take_length]
 exact h _ _
def ZD (n:YNetwork):Option (List ByteArray):=
 if n.legs.length≤1048576∧(n.legs.all fun l=>decide (l.from_.size≤maxLen∧l.to_.size≤maxLen))=true then some (srtS ((Zc2 n).foldl dd [])) else none
theorem ZgQ (n:YNetwork) {r:(List ByteArray)} (H:ZD n=some r):CallM Tryz.prog 141 [.ag (cNetwork n)] [] (.ms 0) [some ⟨.of 9,1,r.map cStr⟩]:=by
 unfold ZD at H
 split at H
 case isFalse=>cases H
 rename_i hok
 obtain ⟨hn,hs⟩:=hok
 obtain rfl:=Option.some.inj H
 have hs':∀ l∈n.legs,l.from_.size≤maxLen∧l.to_.size≤maxLen:=fun l hl=>of_decide_eq_true (List.all_eq_true.1 hs l hl)
 intro S β w vs ω hk hl ha
 obtain ⟨x,hx0,hr⟩:=ha 0 _ rfl
 have hv:vs=#[x]:=by
  have h1:vs.size=1:=hl
  apply Array.ext (by simp [h1])
  intro i h2 h3
  have:i=0:=by omega
  subst this
  have:=(Array.getElem?_eq_some_iff.1 hx0).2
  simpa using this
 subst hv
 obtain ⟨us,rfl,hul,hu1,hur⟩:=hr.ag_inv
 have hul':us.size=3:=hul
 have h0:us[0]?=some us[0]:=Array.getElem?_eq_getElem (by omega)
 have hus:us=#[us[0],us[1],us[2]]:=by
  apply Array.ext (by simp [hul'])
  intro i h2 h3
  match i,h2 with
  | 0,_=>rfl
  | 1,_=>rfl
  | 2,_=>rfl
  | i+3,h2=>omega
 have hr0:=hur 0 (.sl (n.legs.map cLeg)) _ rfl h0
 have hsl:∃ A c,us[0]=.slice A n.legs.length c∧n.legs.length≤c∧Rd w w.heap.size A n.legs:=by
  cases hr0 with
  | c h=>
   generalize hq:PV.sl (n.legs.map cLeg)=q at h
   generalize us[0]=y at h
   cases h with
   | v x h=>cases hq
   | ud=>cases hq
   | un=>cases hq
   | rp=>cases hq
   | fn=>cases hq
   | nil A c=>
    have:n.legs=[]:=by simpa using hq
    exact ⟨A,c,by rw [this]; rfl,by rw [this]; simp,by rw [this]; exact Rd.nil_⟩
   | sl es b off k c u hS hkp hnc hm hes hcc h1 hrr=>
    obtain rfl:n.legs.map cLeg=es:=by simpa using hq
    refine ⟨_,c,by simp,by simpa using hnc,fun hne=>⟨b,off,rfl,hk.sz b hS,fun j u' hu'=>?_⟩⟩
    have hpos:0<n.legs.length:=List.length_pos_iff.2 hne
    have hk6:k=6:=(hes 0 (cLeg n.legs[0]) (by simp [hpos])).symm
    subst hk6
    have hj:=(List.getElem?_eq_some_iff.1 hu').1
    rw [Zds] at hj
    have hj6:j<n.legs.length*6:=hj
    have hi:j / 6<n.legs.length:=by omega
    have hy:n.legs[j / 6]?=some n.legs[j / 6]:=List.getElem?_eq_getElem hi
    have hjj:j=(j / 6)*6+j % 6:=by omega
    have hm6:j % 6<6:=Nat.mod_lt _ (by decide)
    have hp:∃ p u'',(cLeg n.legs[j / 6])[j % 6]?=some p∧(Enc.cells n.legs[j / 6])[j % 6]?=some u''∧∀ z,RepC w S p z→z=u'':=by
     generalize n.legs[j / 6]=y
     generalize j % 6=m at hm6
     match m,hm6 with
     | 0,_=>exact ⟨_,_,rfl,rfl,fun z hz=>by cases hz; rfl⟩
     | 1,_=>exact ⟨_,_,rfl,rfl,fun z hz=>by cases hz; rfl⟩
     | 2,_=>exact ⟨_,_,rfl,rfl,fun z hz=>by cases hz; rfl⟩
     | 3,_=>exact ⟨_,_,rfl,rfl,fun z hz=>by cases hz; rfl⟩
     | 4,_=>exact ⟨_,_,rfl,rfl,fun z hz=>by cases hz; rfl⟩
     | 5,_=>exact ⟨_,_,rfl,rfl,fun z hz=>by cases hz; rfl⟩
    obtain ⟨p,u'',hp1,hp2,hp3⟩:=hp
    have hf:=Zfa hy hp2
    rw [show Enc.k YLeg=6 from rfl,← hjj] at hf
    obtain rfl:u''=u':=Option.some.inj (hf.symm.trans hu')
    have e1:(n.legs.map cLeg)[j / 6]?=some (cLeg n.legs[j / 6]):=by simp [hi]
    have hc:=hcc (j / 6) _ (j % 6) p e1 hp1
    have hz:=hp3 _ (hrr (j / 6) _ (j % 6) p e1 hp1)
    rw [hz] at hc
    rw [show off+j=off+j / 6*6+j % 6 by omega]
    exact hc
 obtain ⟨A,c,hA,hcap,hrd⟩:=hsl
 rw [hus,hA]
 refine (ZkQ A n.legs _ c _ _ w hrd rfl hcap hn hs').mono ?_
 rintro e w' ⟨v,rfl,ho,hu⟩
 rw [ZnR] at ho
 obtain ⟨E',h1,h2,h3,h4,h5⟩:=ZjN (c:=cStr) hk ho hu (fun x=>⟨rfl,fun j p hj=>by
  cases j with
  | zero=>obtain rfl:vs x=p:=by simpa using hj
          exact ⟨_,rfl,rfl,fun w E=>.c (.v _ rfl)⟩
  | succ j=>simp [cStr] at hj⟩)
 exact ⟨v,E',rfl,h1,h2,h3,h4,h5⟩
instance (n:YNetwork):CT Tryz.prog (ZD n):=⟨141,[.ag (cNetwork n)],[],fun r=>.ms 0,fun r=>[some ⟨.of 9,1,r.map cStr⟩],ZgQ n⟩
set_option maxHeartbeats 16000000
def ZdP (n:YNetwork) (s0:Int × (List ByteArray)) (y2:YLeg) (s1:Int):Option (Int ⊕ Int):=
 cond (decide (s1<(s0.2.length:Int)))
 ((getI s0.2 s1).bind fun y3=>
 cond (sLt y3 y2.to_)
 (some (.inl (w64 (s1+1))))
 (some (.inr s1)))
 (some (.inr s1))
instance (n:YNetwork) (s0:Int × (List ByteArray)) (y2:YLeg):LoopE (ZdP n s0 y2):=⟨fun s1=>(.un::.be 0 0 0::.un::.ms 1::vi s0.1::vs y2.to_::vi s1::(U 65 [])),fun s1=>[some ⟨.of 35,3,[[.sl (n.legs.map cLeg),.sl (n.off.map cInt),vi n.change]]⟩,some ⟨.of 9,1,s0.2.map cStr⟩]⟩
def ZdQ (n:YNetwork) (s0:Int × (List ByteArray)) (y1:YLeg) (s2:Int):Option (Int ⊕ Int):=
 cond (decide (s2<(s0.2.length:Int)))
 ((getI s0.2 s2).bind fun y5=>
 cond (sLt y5 y1.from_)
 (some (.inl (w64 (s2+1))))
 (some (.inr s2)))
 (some (.inr s2))
instance (n:YNetwork) (s0:Int × (List ByteArray)) (y1:YLeg):LoopE (ZdQ n s0 y1):=⟨fun s2=>(.un::.be 0 0 0::.un::.ms 1::vi s0.1::vs y1.from_::vi s2::(U 65 [])),fun s2=>[some ⟨.of 35,3,[[.sl (n.legs.map cLeg),.sl (n.off.map cInt),vi n.change]]⟩,some ⟨.of 9,1,s0.2.map cStr⟩]⟩
def Za9 (n:YNetwork) (s0:Int × (List ByteArray)):Option ((Int × (List ByteArray)) ⊕ (List ByteArray)):=
 cond (decide (s0.1<(w64 (2*(n.legs.length:Int)))))
 ((getI n.legs (IntKind.i64.wrap (Int.tdiv s0.1 2))).bind fun y1=>
 cond (decide ((Int.tmod s0.1 2)=1))
 ((getI n.legs (IntKind.i64.wrap (Int.tdiv s0.1 2))).bind fun y2=>
 (iterF (ZdP n s0 y2) NN 0).bind (fun o1=>
 cond (decide (o1=(s0.2.length:Int)))
 ((chk (slOk 0 o1 s0.2.length)).bind fun _=>
 (chk (appOk ((([]:List ByteArray):List ByteArray).length+((subL s0.2 0 o1):List ByteArray).length) 16)).bind fun _=>
 (chk (appOk ((((([]:List ByteArray):List ByteArray)++(subL s0.2 0 o1)):List ByteArray).length+([y2.to_]:List ByteArray).length) 16)).bind fun _=>
 (chk (slOk o1 (s0.2.length:Int) s0.2.length)).bind fun _=>
 (chk (appOk ((((((([]:List ByteArray):List ByteArray)++(subL s0.2 0 o1)):List ByteArray)++[y2.to_]):List ByteArray).length+((subL s0.2 o1 (s0.2.length:Int)):List ByteArray).length) 16)).bind fun _=>
 some (.inl ((w64 (s0.1+1)),((((((([]:List ByteArray):List ByteArray)++(subL s0.2 0 o1)):List ByteArray)++[y2.to_]):List ByteArray)++(subL s0.2 o1 (s0.2.length:Int))))))
 ((getI s0.2 o1).bind fun y4=>
 cond (!decide (y4=y2.to_))
 ((chk (slOk 0 o1 s0.2.length)).bind fun _=>
 (chk (appOk ((([]:List ByteArray):List ByteArray).length+((subL s0.2 0 o1):List ByteArray).length) 16)).bind fun _=>
 (chk (appOk ((((([]:List ByteArray):List ByteArray)++(subL s0.2 0 o1)):List ByteArray).length+([y2.to_]:List ByteArray).length) 16)).bind fun _=>
 (chk (slOk o1 (s0.2.length:Int) s0.2.length)).bind fun _=>
 (chk (appOk ((((((([]:List ByteArray):List ByteArray)++(subL s0.2 0 o1)):List ByteArray)++[y2.to_]):List ByteArray).length+((subL s0.2 o1 (s0.2.length:Int)):List ByteArray).length) 16)).bind fun _=>
 some (.inl ((w64 (s0.1+1)),((((((([]:List ByteArray):List ByteArray)++(subL s0.2 0 o1)):List ByteArray)++[y2.to_]):List ByteArray)++(subL s0.2 o1 (s0.2.length:Int))))))
 (some (.inl ((w64 (s0.1+1)),s0.2))))))
 ((iterF (ZdQ n s0 y1) NN 0).bind (fun o2=>
 cond (decide (o2=(s0.2.length:Int)))
 ((chk (slOk 0 o2 s0.2.length)).bind fun _=>
 (chk (appOk ((([]:List ByteArray):List ByteArray).length+((subL s0.2 0 o2):List ByteArray).length) 16)).bind fun _=>
 (chk (appOk ((((([]:List ByteArray):List ByteArray)++(subL s0.2 0 o2)):List ByteArray).length+([y1.from_]:List ByteArray).length) 16)).bind fun _=>
 (chk (slOk o2 (s0.2.length:Int) s0.2.length)).bind fun _=>
 (chk (appOk ((((((([]:List ByteArray):List ByteArray)++(subL s0.2 0 o2)):List ByteArray)++[y1.from_]):List ByteArray).length+((subL s0.2 o2 (s0.2.length:Int)):List ByteArray).length) 16)).bind fun _=>
 some (.inl ((w64 (s0.1+1)),((((((([]:List ByteArray):List ByteArray)++(subL s0.2 0 o2)):List ByteArray)++[y1.from_]):List ByteArray)++(subL s0.2 o2 (s0.2.length:Int))))))
 ((getI s0.2 o2).bind fun y6=>
 cond (!decide (y6=y1.from_))
 ((chk (slOk 0 o2 s0.2.length)).bind fun _=>
 (chk (appOk ((([]:List ByteArray):List ByteArray).length+((subL s0.2 0 o2):List ByteArray).length) 16)).bind fun _=>
 (chk (appOk ((((([]:List ByteArray):List ByteArray)++(subL s0.2 0 o2)):List ByteArray).length+([y1.from_]:List ByteArray).length) 16)).bind fun _=>
 (chk (slOk o2 (s0.2.length:Int) s0.2.length)).bind fun _=>
 (chk (appOk ((((((([]:List ByteArray):List ByteArray)++(subL s0.2 0 o2)):List ByteArray)++[y1.from_]):List ByteArray).length+((subL s0.2 o2 (s0.2.length:Int)):List ByteArray).length) 16)).bind fun _=>
 some (.inl ((w64 (s0.1+1)),((((((([]:List ByteArray):List ByteArray)++(subL s0.2 0 o2)):List ByteArray)++[y1.from_]):List ByteArray)++(subL s0.2 o2 (s0.2.length:Int))))))
 (some (.inl ((w64 (s0.1+1)),s0.2)))))))
 (some (.inr s0.2))
instance (n:YNetwork):LoopE (Za9 n):=⟨fun s0=>(.un::.be 0 0 0::.un::.ms 1::vi s0.1::(U 67 [])),fun s0=>[some ⟨.of 35,3,[[.sl (n.legs.map cLeg),.sl (n.off.map cInt),vi n.change]]⟩,some ⟨.of 9,1,s0.2.map cStr⟩]⟩
def ZO (n:YNetwork):Option (List ByteArray):=
 (iterF (Za9 n) NN (0,([]:List ByteArray))).bind (fun o0=>
 some o0)
instance (n:YNetwork):CT Tryz.prog (ZO n):=⟨49,[.ag (cNetwork n)],[],fun r=>.ms 0,fun r=>[some ⟨.of 9,1,r.map cStr⟩],fun H=>by replace H:=H0 H; unfold ZO at H; exact callM_of Tryz.func49 rfl Tryz.ntmps49 Tryz.results49 fun Q hQ hQn=>wk3⟩
theorem Zj9 {α:Type} {r:α→α→Prop} (irr:∀ a,¬ r a a) (asy:∀ a b,r a b→¬ r b a):∀ {l1 l2:List α},l1.Pairwise r→l2.Pairwise r→(∀ x,x∈l1↔x∈l2)→l1=l2
 | [],[],_,_,_=>rfl
 | [],b::l2,_,_,h=>absurd ((h b).2 (List.mem_cons_self ..)) (by simp)
 | a::l1,[],_,_,h=>absurd ((h a).1 (List.mem_cons_self ..)) (by simp)
 | a::l1,b::l2,h1,h2,h=>by
  rw [List.pairwise_cons] at h1 h2
  have hab:a=b:=by
   rcases List.mem_cons.1 ((h a).1 (List.mem_cons_self ..)) with e | e
   ·exact e
   ·rcases List.mem_cons.1 ((h b).2 (List.mem_cons_self ..)) with e' | e'
    ·exact e'.symm
    ·exact absurd (h1.1 b e') (asy _ _ (h2.1 a e))
  subst hab
  congr 1
  refine Zj9 irr asy h1.2 h2.2 fun x=>⟨fun hx=>?_,fun hx=>?_⟩
  ·rcases List.mem_cons.1 ((h x).1 (List.mem_cons_of_mem _ hx)) with e | e
   ·subst e; exact absurd (h1.1 x hx) (irr x)
   ·exact e
  ·rcases List.mem_cons.1 ((h x).2 (List.mem_cons_of_mem _ hx)) with e | e
   ·subst e; exact absurd (h2.1 x hx) (irr x)
   ·exact e
theorem ZhU (a b:ByteArray):sLt a b=true↔a.data.toList<b.data.toList:=by
 unfold sLt; rw [Go.Proofs.bytesLess_eq,ByteArray.toList_eq,ByteArray.toList_eq,decide_eq_true_iff]
theorem Zjb {a b:ByteArray} (h:a.data.toList=b.data.toList):a=b:=by
 obtain ⟨⟨x⟩⟩:=a; obtain ⟨⟨y⟩⟩:=b; simpa using h
theorem ZqK (a:ByteArray):¬ sLt a a=true:=by rw [ZhU]; exact List.lt_irrefl _
theorem Zrx (a b:ByteArray) (h:sLt a b=true):¬ sLt b a=true:=by rw [ZhU] at *; exact List.lt_asymm h
theorem Zry {a b c:ByteArray} (h:sLt a b=true) (h':sLt b c=true):sLt a c=true:=by rw [ZhU] at *; exact List.lt_trans h h'
theorem ZqL {a b:ByteArray} (h:¬ sLt a b=true) (hn:a≠b):sLt b a=true:=by
 rw [ZhU] at *
 rcases List.le_total a.data.toList b.data.toList with e | e
 ·rcases (List.le_iff_lt_or_eq.1 e) with e' | e'
  ·exact absurd e' h
  ·exact absurd (Zjb e') hn
 ·rcases (List.le_iff_lt_or_eq.1 e) with e' | e'
  ·exact e'
  ·exact absurd (Zjb e'.symm) hn
def insS:List ByteArray→ByteArray→List ByteArray
 | [],p=>[p]
 | x::xs,p=>if sLt x p=true then x::insS xs p else if x=p then x::xs else p::x::xs
theorem ZiL {p y:ByteArray}:∀ {xs:List ByteArray},y∈insS xs p↔y=p∨y∈xs
 | []=>by simp [insS]
 | x::xs=>by
  unfold insS
  split
  ·rw [List.mem_cons,ZiL,List.mem_cons]; grind
  ·split
   ·rename_i h; subst h; simp
   ·simp
theorem ZhB {p:ByteArray}:∀ {xs:List ByteArray},xs.Pairwise (fun a b=>sLt a b=true)→(insS xs p).Pairwise (fun a b=>sLt a b=true)
 | [],_=>by simp [insS]
 | x::xs,h=>by
  rw [List.pairwise_cons] at h
  unfold insS
  split
  ·rename_i h1
   rw [List.pairwise_cons]
   refine ⟨fun y hy=>?_,ZhB h.2⟩
   rcases ZiL.1 hy with e | e
   ·rw [e]; exact h1
   ·exact h.1 y e
  ·rename_i h1
   split
   ·rw [List.pairwise_cons]; exact h
   ·rename_i h2
    have h3:=ZqL h1 h2
    rw [List.pairwise_cons,List.pairwise_cons]
    refine ⟨fun y hy=>?_,h⟩
    rcases List.mem_cons.1 hy with e | e
    ·rw [e]; exact h3
    ·exact Zry h3 (h.1 y e)
theorem ZiK {p:ByteArray}:∀ {xs:List ByteArray},(insS xs p).length≤xs.length+1
 | []=>by simp [insS]
 | x::xs=>by
  unfold insS
  split
  ·have:=ZiK (p:=p) (xs:=xs); simp; omega
  ·split <;> simp
theorem Zf4 {y:ByteArray}:∀ {l acc:List ByteArray},y∈l.foldl insS acc↔y∈l∨y∈acc
 | [],acc=>by simp
 | p::l,acc=>by rw [List.foldl_cons,Zf4,ZiL,List.mem_cons]; grind
theorem ZgK:∀ {l acc:List ByteArray},acc.Pairwise (fun a b=>sLt a b=true)→(l.foldl insS acc).Pairwise (fun a b=>sLt a b=true)
 | [],acc,h=>h
 | p::l,acc,h=>ZgK (l:=l) (ZhB h)
theorem Zjs:∀ {l acc:List ByteArray},(l.foldl insS acc).length≤l.length+acc.length
 | [],acc=>by simp
 | p::l,acc=>by
  have h1:=Zjs (l:=l) (acc:=insS acc p)
  have h2:=ZiK (p:=p) (xs:=acc)
  simp only [List.foldl_cons,List.length_cons]; omega
/-! The program's: a list without repeats,sorted. -/
theorem ZpO {y:ByteArray}:∀ {l acc:List ByteArray},y∈l.foldl dd acc↔y∈l∨y∈acc
 | [],acc=>by simp
 | p::l,acc=>by
  rw [List.foldl_cons,ZpO,List.mem_cons]
  unfold dd
  split
  ·rename_i h
   have h:=Znt.1 h
   constructor
   ·grind
   ·rintro ((rfl | h') | h') <;> grind
  ·simp; grind
theorem Zlq:∀ {l acc:List ByteArray},acc.Nodup→(l.foldl dd acc).Nodup
 | [],acc,h=>h
 | p::l,acc,h=>by
  rw [List.foldl_cons]
  refine Zlq ?_
  unfold dd
  split
  ·exact h
  ·rename_i h1
   rw [List.nodup_append]
   refine ⟨h,by simp,?_⟩
   intro a ha b hb
   simp at hb
   rintro rfl
   subst hb
   exact h1 (Znt.2 ha)
theorem Zpj {y:ByteArray} {xs:List ByteArray}:y∈srtS xs↔y∈xs:=by
 unfold srtS
 rw [List.mem_map]
 constructor
 ·rintro ⟨l,hl,rfl⟩
  rw [List.mem_mergeSort,List.mem_map] at hl
  obtain ⟨b,hb,rfl⟩:=hl
  have:(⟨b.data.toList.toArray⟩:ByteArray)=b:=Zjb (by simp)
  rw [this]; exact hb
 ·intro h
  exact ⟨y.data.toList,by rw [List.mem_mergeSort,List.mem_map]; exact ⟨y,h,rfl⟩,Zjb (by simp)⟩
theorem ZkV {xs:List ByteArray} (h:xs.Nodup):(srtS xs).Pairwise (fun a b=>sLt a b=true):=by
 unfold srtS
 rw [List.pairwise_map]
 have h1:((xs.map fun b:ByteArray=>b.data.toList).mergeSort fun x y=>decide (x≤y)).Pairwise (fun a b=>decide (a≤b)=true):=
  List.pairwise_mergeSort (fun a b c=>by simp only [decide_eq_true_iff]; exact List.le_trans) (fun a b=>by simp only [Bool.or_eq_true,decide_eq_true_iff]; exact List.le_total a b) _
 have h2:((xs.map fun b:ByteArray=>b.data.toList).mergeSort fun x y=>decide (x≤y)).Nodup:=by
  rw [(List.mergeSort_perm _ _).nodup_iff]
  unfold List.Nodup
  rw [List.pairwise_map]
  exact h.imp fun hne e=>hne (Zjb e)
 refine (h1.and h2).imp ?_
 rintro a b ⟨h3,h4⟩
 rw [ZhU]
 rcases (List.le_iff_lt_or_eq.1 (of_decide_eq_true h3)) with e | e
 ·simpa using e
 ·exact absurd e h4
def Za (n:YNetwork):List ByteArray:=(Zc2 n).foldl insS []
theorem ZhA {n:YNetwork} (h:ZZ n):ZD n=some (Za n):=by
 unfold ZD
 rw [if_pos ⟨h.legs,List.all_eq_true.2 fun l hl=>decide_eq_true (by have:=h.leg l hl; unfold ZjF B60 at this; unfold maxLen; omega)⟩]
 congr 1
 exact Zj9 (r:=fun a b=>sLt a b=true) ZqK Zrx (ZkV (Zlq List.nodup_nil)) (ZgK List.Pairwise.nil) fun x=>by
  rw [Zpj,ZpO]; unfold Za; rw [Zf4]
theorem Zqp {α:Type} {xs:List α} {p:α→Bool} {body:Int→Option (Int ⊕ Int)} (h1:∀ i (hi:i<xs.length),body (i:Int)=some (if p xs[i]=true then .inl ((i+1:Nat):Int) else .inr (i:Int))) (h2:body (xs.length:Int)=some (.inr (xs.length:Int))) (hN:xs.length<NN):
 iterF body NN 0=some ((xs.takeWhile p).length:Int):=by
 have key:∀ (ys:List α) (i N:Nat),xs.drop i=ys→i≤xs.length→ys.length<N→iterF body N (i:Int)=some ((i+(ys.takeWhile p).length:Nat):Int):=by
  intro ys
  induction ys with
  | nil=>
   intro i N hd hi hN
   cases N with
   | zero=>omega
   | succ N=>
    have:i=xs.length:=by have:=congrArg List.length hd; simp at this; omega
    subst this
    simp only [iterF,h2]
    rfl
  | cons y ys ih=>
   intro i N hd hi hN
   cases N with
   | zero=>simp at hN
   | succ N=>
    have hy:xs[i]?=some y:=by
     have:=congrArg (fun l=>l[0]?) hd
     simpa using this
    have hlt:i<xs.length:=(List.getElem?_eq_some_iff.1 hy).1
    have hyv:xs[i]=y:=(List.getElem?_eq_some_iff.1 hy).2
    have hd':xs.drop (i+1)=ys:=by
     have:=congrArg (List.drop 1) hd
     simpa [List.drop_drop] using this
    simp only [iterF,h1 i hlt,hyv]
    cases hp:p y with
    | true=>
     simp only [if_true]
     have:=ih (i+1) N hd' hlt (by simp at hN; omega)
     refine this.trans ?_
     rw [List.takeWhile_cons_of_pos hp]
     congr 2
     simp; omega
    | false=>
     simp only [Bool.false_eq_true,if_false]
     rw [List.takeWhile_cons_of_neg (by simp [hp])]
     rfl
 simpa using key xs 0 NN rfl (Nat.zero_le _) hN
theorem Znu (p:ByteArray):∀ (xs:List ByteArray),insS xs p=
 if xs[(xs.takeWhile fun x=>sLt x p).length]?=some p then xs else xs.take (xs.takeWhile fun x=>sLt x p).length++[p]++xs.drop (xs.takeWhile fun x=>sLt x p).length
 | []=>by simp [insS]
 | x::xs=>by
  unfold insS
  cases h:sLt x p with
  | true=>
   simp only [if_true]
   rw [List.takeWhile_cons_of_pos (by exact h),Znu p xs]
   simp only [List.length_cons,List.getElem?_cons_succ,List.take_succ_cons,List.drop_succ_cons]
   split <;> simp
  | false=>
   rw [List.takeWhile_cons_of_neg (by simp [h])]
   simp only [List.length_nil,List.getElem?_cons_zero,List.take_zero,List.drop_zero,Option.some.injEq,Bool.false_eq_true,if_false]
   split <;> simp
theorem Zl2 {out:List ByteArray} {p:ByteArray} {i':Int} (hl:out.length≤4194304):
 (cond (decide (((out.takeWhile fun x=>sLt x p).length:Int)=(out.length:Int)))
  ((chk (slOk 0 ((out.takeWhile fun x=>sLt x p).length:Int) out.length)).bind fun _=>
  (chk (appOk ((([]:List ByteArray):List ByteArray).length+((subL out 0 ((out.takeWhile fun x=>sLt x p).length:Int)):List ByteArray).length) 16)).bind fun _=>
  (chk (appOk ((((([]:List ByteArray):List ByteArray)++(subL out 0 ((out.takeWhile fun x=>sLt x p).length:Int))):List ByteArray).length+([p]:List ByteArray).length) 16)).bind fun _=>
  (chk (slOk ((out.takeWhile fun x=>sLt x p).length:Int) (out.length:Int) out.length)).bind fun _=>
  (chk (appOk ((((((([]:List ByteArray):List ByteArray)++(subL out 0 ((out.takeWhile fun x=>sLt x p).length:Int))):List ByteArray)++[p]):List ByteArray).length+((subL out ((out.takeWhile fun x=>sLt x p).length:Int) (out.length:Int)):List ByteArray).length) 16)).bind fun _=>
  (some (.inl (i',((((((([]:List ByteArray):List ByteArray)++(subL out 0 ((out.takeWhile fun x=>sLt x p).length:Int))):List ByteArray)++[p]):List ByteArray)++(subL out ((out.takeWhile fun x=>sLt x p).length:Int) (out.length:Int))))):Option ((Int × List ByteArray) ⊕ List ByteArray)))
  ((getI out ((out.takeWhile fun x=>sLt x p).length:Int)).bind fun y4=>
  cond (!decide (y4=p))
  ((chk (slOk 0 ((out.takeWhile fun x=>sLt x p).length:Int) out.length)).bind fun _=>
  (chk (appOk ((([]:List ByteArray):List ByteArray).length+((subL out 0 ((out.takeWhile fun x=>sLt x p).length:Int)):List ByteArray).length) 16)).bind fun _=>
  (chk (appOk ((((([]:List ByteArray):List ByteArray)++(subL out 0 ((out.takeWhile fun x=>sLt x p).length:Int))):List ByteArray).length+([p]:List ByteArray).length) 16)).bind fun _=>
  (chk (slOk ((out.takeWhile fun x=>sLt x p).length:Int) (out.length:Int) out.length)).bind fun _=>
  (chk (appOk ((((((([]:List ByteArray):List ByteArray)++(subL out 0 ((out.takeWhile fun x=>sLt x p).length:Int))):List ByteArray)++[p]):List ByteArray).length+((subL out ((out.takeWhile fun x=>sLt x p).length:Int) (out.length:Int)):List ByteArray).length) 16)).bind fun _=>
  some (.inl (i',((((((([]:List ByteArray):List ByteArray)++(subL out 0 ((out.takeWhile fun x=>sLt x p).length:Int))):List ByteArray)++[p]):List ByteArray)++(subL out ((out.takeWhile fun x=>sLt x p).length:Int) (out.length:Int))))))
  (some (.inl (i',out)))))=some (.inl (i',insS out p)):=by
 have hk:(out.takeWhile fun x=>sLt x p).length≤out.length:=(List.takeWhile_sublist _).length_le
 rw [Znu]
 generalize hkk:(out.takeWhile fun x=>sLt x p).length=k at *
 have e1:subL out 0 (k:Int)=out.take k:=by simp [subL]
 have e2:subL out (k:Int) (out.length:Int)=out.drop k:=by
  unfold subL
  rw [Int.toNat_natCast,Int.toNat_natCast,List.take_of_length_le (by simp)]
 have c1:chk (slOk 0 (k:Int) out.length)=some ():=Zfw (by unfold slOk; rw [decide_eq_true_iff]; omega)
 have c2:chk (slOk (k:Int) (out.length:Int) out.length)=some ():=Zfw (by unfold slOk; rw [decide_eq_true_iff]; omega)
 have ap:∀ n:Nat,n≤8388608→chk (appOk n 16)=some ():=fun n hn=>Zfw (by unfold appOk; rw [decide_eq_true_iff]; omega)
 simp only [e1,e2,c1,c2,Option.bind_some,List.nil_append]
 rw [ap _ (by simp; omega),ap _ (by simp; omega),ap _ (by simp; omega)]
 simp only [Option.bind_some]
 by_cases hke:(k:Int)=out.length
 ·have hke':k=out.length:=by omega
  rw [decide_eq_true hke,cond_true,if_neg (by rw [hke']; simp)]
 ·rw [decide_eq_false hke,cond_false,Zd]
  have hlt:k<out.length:=by omega
  rw [List.getElem?_eq_getElem hlt]
  simp only [Option.bind_some]
  by_cases he:out[k]=p
  ·rw [decide_eq_true he,if_pos (by rw [he])]; rfl
  ·rw [decide_eq_false he,if_neg (by simpa using he)]; rfl
theorem ZjO {n:YNetwork} {i:Nat} (h:i<n.legs.length):(Zc2 n)[2*i]?=some n.legs[i].from_∧(Zc2 n)[2*i+1]?=some n.legs[i].to_:=by
 unfold Zc2
 have key:∀ (l:List YLeg) (i:Nat) (h:i<l.length),(l.flatMap fun x=>[x.from_,x.to_])[2*i]?=some l[i].from_∧(l.flatMap fun x=>[x.from_,x.to_])[2*i+1]?=some l[i].to_:=by
  intro l
  induction l with
  | nil=>intro i h; simp at h
  | cons a l ih=>
   intro i h
   cases i with
   | zero=>simp [List.flatMap_cons]
   | succ i=>
    have:=ih i (by simpa using h)
    simp only [List.flatMap_cons,List.getElem_cons_succ]
    rw [show 2*(i+1)=2*i+2 by omega,show 2*i+2+1=2*i+1+2 by omega]
    simpa using this
 exact key n.legs i h
theorem Zge (n:YNetwork):(Zc2 n).length=2*n.legs.length:=by
 unfold Zc2
 induction n.legs with
 | nil=>rfl
 | cons a l ih=>simp only [List.flatMap_cons,List.length_append,ih,List.length_cons,List.length_nil]; omega
theorem twL {out:List ByteArray} {p:ByteArray} (hl:out.length≤4194304) {body:Int→Option (Int ⊕ Int)} (hb:∀ i:Int,body i=cond (decide (i<(out.length:Int))) ((getI out i).bind fun y=>cond (sLt y p) (some (.inl (w64 (i+1)))) (some (.inr i))) (some (.inr i))):
 iterF body NN 0=some ((out.takeWhile fun x=>sLt x p).length:Int):=by
 refine Zqp (fun i hi=>?_) ?_ (by unfold NN; omega)
 ·have hw:=Zt hi (by omega)
  have hg:getI out (i:Int)=some out[i]:=by rw [Zd]; exact List.getElem?_eq_getElem hi
  rw [hb,decide_eq_true (show (i:Int)<out.length by omega),cond_true,hg]
  simp only [Option.bind_some,hw]
  cases sLt out[i] p <;> rfl
 ·rw [hb,decide_eq_false (by omega)]; rfl
theorem ZmG {n:YNetwork} (h:n.legs.length≤1048576) {i:Nat} {p:ByteArray} (hp:(Zc2 n)[i]?=some p) {out:List ByteArray} (ho:out.length≤4194304):
 Za9 n ((i:Int),out)=some (.inl (((i+1:Nat):Int),insS out p)):=by
 have hi:i<2*n.legs.length:=by rw [← Zge]; exact (List.getElem?_eq_some_iff.1 hp).1
 have hw2:w64 (2*(n.legs.length:Int))=2*n.legs.length:=Zc (by omega)
 have hdiv:IntKind.i64.wrap (Int.tdiv (i:Int) 2)=((i / 2:Nat):Int):=by
  rw [show Int.tdiv (i:Int) 2=((i / 2:Nat):Int) from rfl]
  exact Zc (by omega)
 have hmod:Int.tmod (i:Int) 2=((i % 2:Nat):Int):=rfl
 have hw:w64 ((i:Int)+1)=((i+1:Nat):Int):=Zt hi (by omega)
 have hlt:i / 2<n.legs.length:=by omega
 have hg:getI n.legs ((i / 2:Nat):Int)=some n.legs[i / 2]:=by rw [Zd]; exact List.getElem?_eq_getElem hlt
 obtain ⟨n1,n2⟩:=ZjO hlt
 unfold Za9
 simp only [hw2,hdiv,hmod,hw,hg,Option.bind_some]
 rw [decide_eq_true (show (i:Int)<2*(n.legs.length:Int) by omega),cond_true]
 rcases Nat.mod_two_eq_zero_or_one i with hm | hm
 ·rw [hm,decide_eq_false (show ¬ ((0:Nat):Int)=1 by omega),cond_false]
  have hp':p=n.legs[i / 2].from_:=by
   rw [show i=2*(i / 2) by omega,n1] at hp
   exact (Option.some.inj hp).symm
  rw [← hp']
  rw [twL ho (body:=ZdQ n ((i:Int),out) n.legs[i / 2]) (p:=p) (fun j=>by rw [hp']; rfl)]
  exact Zl2 ho
 ·rw [hm,decide_eq_true (show ((1:Nat):Int)=1 by omega),cond_true]
  have hp':p=n.legs[i / 2].to_:=by
   rw [show i=2*(i / 2)+1 by omega] at hp
   rw [n2] at hp
   exact (Option.some.inj hp).symm
  rw [← hp']
  rw [twL ho (body:=ZdP n ((i:Int),out) n.legs[i / 2]) (p:=p) (fun j=>by rw [hp']; rfl)]
  exact Zl2 ho
theorem ZhY {n:YNetwork} (h:n.legs.length≤1048576):ZO n=some (Za n):=by
 have key:∀ (ps:List ByteArray) (i N:Nat) (out:List ByteArray),(Zc2 n).drop i=ps→i≤(Zc2 n).length→ps.length<N→out.length≤i→iterF (Za9 n) N ((i:Int),out)=some (ps.foldl insS out):=by
  have hnl:=Zge n
  intro ps
  induction ps with
  | nil=>
   intro i N out hd hi hN ho
   cases N with
   | zero=>omega
   | succ N=>
    have:i=(Zc2 n).length:=by have:=congrArg List.length hd; simp at this; omega
    subst this
    have hw2:w64 (2*(n.legs.length:Int))=2*n.legs.length:=Zc (by omega)
    simp only [iterF,Za9,hw2]
    rw [decide_eq_false (by rw [hnl]; omega)]
    rfl
  | cons p ps ih=>
   intro i N out hd hi hN ho
   cases N with
   | zero=>simp at hN
   | succ N=>
    have hp:(Zc2 n)[i]?=some p:=by
     have:=congrArg (fun l=>l[0]?) hd
     simpa using this
    have hlt:=(List.getElem?_eq_some_iff.1 hp).1
    have hd':(Zc2 n).drop (i+1)=ps:=by
     have:=congrArg (List.drop 1) hd
     simpa [List.drop_drop] using this
    simp only [iterF,ZmG h hp (show out.length≤4194304 by omega)]
    exact ih (i+1) N (insS out p) hd' hlt (by simp at hN; omega) (by have:=ZiK (p:=p) (xs:=out); omega)
 have hnl:=Zge n
 unfold ZO
 rw [show ((0:Int))=((0:Nat):Int) from rfl,key (Zc2 n) 0 NN [] rfl (Nat.zero_le _) (by unfold NN; omega) (by simp)]
 rfl
theorem ZaL {n:YNetwork} (h:ZZ n):ZD n=ZO n∧ZO n=some (Za n):=⟨(ZhA h).trans (ZhY h.legs).symm,ZhY h.legs⟩
theorem Zbk (n:YNetwork):(Za n).length≤2*n.legs.length:=by
 have:=Zjs (l:=Zc2 n) (acc:=[])
 rw [Zge] at this
 simpa [Za] using this
def Zbl (w:YWorld) (id:Int) (t:YTrip) (s0:Int):Option (Int ⊕ (Unit ⊕ Bool)):=
 cond (decide (s0<(w.bookings.length:Int)))
 ((getI w.bookings s0).bind fun y1=>
 cond (decide (y1.thing=id))
 (cond (decide (y1.trip=t))
 ((getI w.orders (w64 (id-1))).bind fun y2=>
 some (.inr (.inr (decide (y1.weight=y2.weight)))))
 (some (.inl (w64 (s0+1)))))
 (some (.inl (w64 (s0+1)))))
 (some (.inr (.inl ())))
instance (w:YWorld) (id:Int) (t:YTrip):LoopE (Zbl w id t):=⟨fun s0=>(.un::vi id::.un::.be 0 0 0::.un::.be 1 0 0::(U 4 (.sl (w.bookings.map cBooking)::vi (w.bookings.length:Int)::vi s0::(U 24 [])))),fun s0=>[some ⟨.of 41,10,[[.sl (w.network.legs.map cLeg),.sl (w.network.off.map cInt),vi w.network.change,.sl (w.orders.map cOrder),.sl (w.bookings.map cBooking),.sl (w.closed.map cTrip),vi w.now,.sl (w.scans.map cScan),.sl (w.skip.map cInt),vi w.made]]⟩,some ⟨.of 55,2,[[vi t.leg,vi t.day]]⟩]⟩
def Zcd (w:YWorld) (id:Int) (t:YTrip):Option Bool:=
 (iterF (Zbl w id t) NN 0).bind (selim (fun o0=>
 some false) (fun r=>some r))
instance (w:YWorld) (id:Int) (t:YTrip):CT Tryz.prog (Zcd w id t):=⟨207,[.ag (cWorld w),vi id,.ag (cTrip t)],[],fun r=>vb r,fun r=>[],fun H=>by replace H:=H0 H; unfold Zcd at H; exact callM_of Tryz.func207 rfl Tryz.ntmps207 Tryz.results207 fun Q hQ hQn=>wk3⟩
def ZcC (l:List YBooking) (thing:Int) (t:YTrip) (weight:Int) (s0:Int):Option (Int ⊕ (Unit ⊕ Bool)):=
 cond (decide (s0<(l.length:Int)))
 ((getI l s0).bind fun y1=>
 cond (decide (y1=(⟨thing,t,weight⟩:YBooking)))
 (some (.inr (.inr true)))
 (some (.inl (w64 (s0+1)))))
 (some (.inr (.inl ())))
instance (l:List YBooking) (thing:Int) (t:YTrip) (weight:Int):LoopE (ZcC l thing t weight):=⟨fun s0=>(.sl (l.map cBooking)::vi thing::.un::vi weight::.un::.un::.be 0 0 0::.un::.un::vi s0::(U 15 [])),fun s0=>[some ⟨.of 55,2,[[vi t.leg,vi t.day]]⟩]⟩
def ZcK (l:List YBooking) (thing:Int) (t:YTrip) (weight:Int):Option Bool:=
 (iterF (ZcC l thing t weight) NN 0).bind (selim (fun o0=>
 some false) (fun r=>some r))
instance (l:List YBooking) (thing:Int) (t:YTrip) (weight:Int):CT Tryz.prog (ZcK l thing t weight):=⟨186,[.sl (l.map cBooking),vi thing,.ag (cTrip t),vi weight],[],fun r=>vb r,fun r=>[],fun H=>by replace H:=H0 H; unfold ZcK at H; exact callM_of Tryz.func186 rfl Tryz.ntmps186 Tryz.results186 fun Q hQ hQn=>wk3⟩
theorem ZnB {α ο:Type} {xs:List α} {p:α→Bool} {body:Int→Option (Int ⊕ ο)} {f:Nat→ο} {e:ο} (h1:∀ i (hi:i<xs.length),body (i:Int)=some (if p xs[i]=true then .inr (f i) else .inl ((i+1:Nat):Int))) (h2:body (xs.length:Int)=some (.inr e)) (hN:xs.length<NN):
 iterF body NN 0=some ((xs.findIdx? p).elim e f):=by
 have key:∀ (ys:List α) (i N:Nat),xs.drop i=ys→i≤xs.length→ys.length<N→iterF body N (i:Int)=some ((ys.findIdx? p).elim e fun k=>f (i+k)):=by
  intro ys
  induction ys with
  | nil=>
   intro i N hd hi hN
   cases N with
   | zero=>omega
   | succ N=>
    have:i=xs.length:=by have:=congrArg List.length hd; simp at this; omega
    subst this
    simp only [iterF,h2]
    rfl
  | cons y ys ih=>
   intro i N hd hi hN
   cases N with
   | zero=>simp at hN
   | succ N=>
    have hy:xs[i]?=some y:=by
     have:=congrArg (fun l=>l[0]?) hd
     simpa using this
    have hlt:i<xs.length:=(List.getElem?_eq_some_iff.1 hy).1
    have hyv:xs[i]=y:=(List.getElem?_eq_some_iff.1 hy).2
    have hd':xs.drop (i+1)=ys:=by
     have:=congrArg (List.drop 1) hd
     simpa [List.drop_drop] using this
    simp only [iterF,h1 i hlt,hyv]
    rw [List.findIdx?_cons]
    cases hp:p y with
    | true=>simp
    | false=>
     simp only [Bool.false_eq_true,if_false]
     have:=ih (i+1) N hd' hlt (by simp at hN; omega)
     refine this.trans ?_
     cases ys.findIdx? p with
     | none=>rfl
     | some k=>simp only [Option.map_some,Option.elim_some]; congr 2; omega
 have:=key xs 0 NN rfl (Nat.zero_le _) hN
 simpa using this
def idxV (l:List ByteArray) (p:ByteArray):Int:=(l.findIdx? fun y=>decide (y=p)).elim (-1) fun k=>(k:Int)
theorem Zet {l:List ByteArray} (h:l.length≤4194304) (p:ByteArray):Zp l p=some (idxV l p):=by
 unfold Zp
 rw [ZnB (xs:=l) (p:=fun y=>decide (y=p)) (f:=fun i=>.inr (i:Int)) (e:=.inl ()) (fun i hi=>?_) (by simp [Zda]) (by unfold NN; omega)]
 ·unfold idxV
  cases l.findIdx? fun y=>decide (y=p) <;> rfl
 ·have hw:=Zt hi (by omega)
  have hg:getI l (i:Int)=some l[i]:=by rw [Zd]; exact List.getElem?_eq_getElem hi
  simp only [Zda,decide_eq_true (show (i:Int)<l.length by omega),cond_true,hg,Option.bind_some,hw]
  cases decide (l[i]=p) <;> rfl
/-! Bookings: one for a thing and a trip. -/
def Zq5 (l:List YBooking):Prop:=∀ x∈l,∀ y∈l,x.thing=y.thing→x.trip=y.trip→x=y
theorem Zqc {a b c:YBooking} (h:befB a b=true) (h':befB b c=true):befB a c=true:=by
 unfold befB at *
 split at h
 ·have h1:=of_decide_eq_true h
  split at h'
  ·have h2:=of_decide_eq_true h'
   rw [if_pos (by omega)]; exact decide_eq_true (by omega)
  ·rename_i h2
   rw [if_pos (by omega)]; exact decide_eq_true (by omega)
 ·rename_i h0
  split at h
  ·have h1:=of_decide_eq_true h
   split at h'
   ·have h2:=of_decide_eq_true h'
    rw [if_pos (by omega)]; exact decide_eq_true (by omega)
   ·rename_i h2
    rw [if_neg (by omega)]
    split at h'
    ·have h3:=of_decide_eq_true h'
     rw [if_pos (by omega)]; exact decide_eq_true (by omega)
    ·rename_i h3
     rw [if_pos (by omega)]; exact decide_eq_true (by omega)
  ·rename_i h00
   have h1:=of_decide_eq_true h
   split at h'
   ·have h2:=of_decide_eq_true h'
    rw [if_pos (by omega)]; exact decide_eq_true (by omega)
   ·rename_i h2
    rw [if_neg (by omega)]
    split at h'
    ·have h3:=of_decide_eq_true h'
     rw [if_pos (by omega)]; exact decide_eq_true (by omega)
    ·rename_i h3
     have h4:=of_decide_eq_true h'
     rw [if_neg (by omega)]; exact decide_eq_true (by omega)
theorem ZV {n:YNetwork} {l:List YBooking} (h:Zr n l=true):Zb n=some true∧l.length≤120:=by
 unfold Zr at h
 simp only [Bool.and_eq_true,decide_eq_true_iff] at h
 refine ⟨?_,by omega⟩
 cases hn:Zb n with
 | none=>rw [hn] at h; cases h.1.1
 | some b=>rw [hn] at h; have:=h.1.1; simp at this; rw [this]
theorem Zg1 {n:YNetwork} {l:List YBooking} (h:Zr n l=true) {i:Nat} (hi:i<l.length):bk1 n l i=true∧bk2 n l i=true:=by
 unfold Zr at h
 simp only [Bool.and_eq_true] at h
 have:=List.all_eq_true.1 h.2 i (List.mem_range.2 hi)
 simpa only [Bool.and_eq_true] using this
theorem ZeR {n:YNetwork} {l:List YBooking} (h:Zr n l=true):∀ (j i:Nat) (hj:j<l.length) (hij:i<j),befB (l[i]'(by omega)) l[j]=true:=by
 intro j
 induction j with
 | zero=>intro i hj hij; omega
 | succ j ih=>
  intro i hj hij
  have h1:=(Zg1 h hj).1
  unfold bk1 at h1
  rw [List.getElem?_eq_getElem hj] at h1
  simp only [Nat.add_sub_cancel,List.getElem?_eq_getElem (show j<l.length by omega),Bool.and_eq_true,Bool.or_eq_true,decide_eq_true_iff] at h1
  have h2:befB l[j] l[j+1]=true:=by
   rcases h1.2 with h3 | h3
   ·omega
   ·exact h3
  rcases Nat.lt_or_ge i j with h3 | h3
  ·exact Zqc (ih i (by omega) h3) h2
  ·have:i=j:=by omega
   subst this; exact h2
theorem ZiA {a b:YBooking} (h1:a.thing=b.thing) (h2:a.trip=b.trip):befB a b=false:=by
 unfold befB
 rw [h2,h1]
 simp
theorem Zid {n:YNetwork} {l:List YBooking} (h:Zr n l=true):Zq5 l:=by
 intro x hx y hy ht htr
 obtain ⟨i,hi,rfl⟩:=List.getElem_of_mem hx
 obtain ⟨j,hj,rfl⟩:=List.getElem_of_mem hy
 rcases Nat.lt_trichotomy i j with h1 | h1 | h1
 ·have:=ZeR h j i hj h1
  rw [ZiA ht htr] at this; cases this
 ·subst h1; rfl
 ·have:=ZeR h i j hi h1
  rw [ZiA ht.symm htr.symm] at this; cases this
def Zct (l:List YBooking) (thing:Int) (t:YTrip) (wt:Int):Bool:=l.any fun y=>decide (y=(⟨thing,t,wt⟩:YBooking))
theorem ZoD {l:List YBooking} (h:l.length≤1048576) (thing:Int) (t:YTrip) (wt:Int):ZcK l thing t wt=some (Zct l thing t wt):=by
 unfold ZcK
 rw [Zf7 (xs:=l) (p:=fun y=>decide (y=(⟨thing,t,wt⟩:YBooking))) (r:=.inr true) (e:=.inl ()) (fun i hi=>?_) (by simp [ZcC]) (by unfold NN; omega)]
 ·unfold Zct
  cases l.any fun y=>decide (y=(⟨thing,t,wt⟩:YBooking)) <;> rfl
 ·have hw:=Zt hi (by omega)
  have hg:getI l (i:Int)=some l[i]:=by rw [Zd]; exact List.getElem?_eq_getElem hi
  simp only [ZcC,decide_eq_true (show (i:Int)<l.length by omega),cond_true,hg,Option.bind_some,hw]
  cases decide (l[i]=(⟨thing,t,wt⟩:YBooking)) <;> rfl
theorem Zjt {w:YWorld} (h:w.bookings.length≤1048576) (hu:Zq5 w.bookings) {id:Int} {o:YOrder} (ho:getI w.orders (w64 (id-1))=some o) (t:YTrip):Zcd w id t=some (Zct w.bookings id t o.weight):=by
 unfold Zcd
 have e:iterF (Zbl w id t) NN 0=runL (fun _ (_:Unit) (x:YBooking)=>some (if x.thing=id∧x.trip=t then .inr (.inr (decide (x.weight=o.weight))) else .inl ())) (fun _=>some (.inl ())) 0 w.bookings ():=by
  refine Zf8 (A:=Unit) (fun _ i=>i) _ _ (fun _ i x hx=>?_) (fun _=>?_) (by unfold NN; omega) ()
  ·have hi:=(List.getElem?_eq_some_iff.1 hx).1
   have hw:=Zt hi (by omega)
   have hg:getI w.bookings (i:Int)=some x:=by rw [Zd]; exact hx
   simp only [Zbl,decide_eq_true (show (i:Int)<w.bookings.length by omega),cond_true,hg,Option.bind_some,hw,ho]
   by_cases h1:x.thing=id
   ·by_cases h2:x.trip=t
    ·simp [h1,h2]
    ·simp [h1,h2]
   ·simp [h1]
  ·simp [Zbl]
 have key:∀ (l:List YBooking) (i:Nat),(∀ x∈l,x∈w.bookings)→runL (fun _ (_:Unit) (x:YBooking)=>some (if x.thing=id∧x.trip=t then (.inr (.inr (decide (x.weight=o.weight))):Unit ⊕ (Unit ⊕ Bool)) else .inl ())) (fun _=>some (Sum.inl ():Unit ⊕ Bool)) i l ()=some (if l.any (fun y=>decide (y.thing=id∧y.trip=t))=true then Sum.inr (Zct l id t o.weight) else Sum.inl ()):=by
  intro l
  induction l with
  | nil=>intro i _; rfl
  | cons x l ih=>
   intro i hm
   simp only [runL]
   by_cases hc:x.thing=id∧x.trip=t
   ·rw [if_pos hc]
    simp only [Option.bind_some,List.any_cons,decide_eq_true hc,Bool.true_or,if_true]
    show some (Sum.inr (decide (x.weight=o.weight)):Unit ⊕ Bool)=_
    congr 2
    unfold Zct
    rw [List.any_cons]
    by_cases hw:x.weight=o.weight
    ·rw [decide_eq_true hw]
     have:x=(⟨id,t,o.weight⟩:YBooking):=by obtain ⟨a,b,c⟩:=x; simp at hc hw ⊢; exact ⟨hc.1,hc.2,hw⟩
     rw [decide_eq_true this]; rfl
    ·rw [decide_eq_false hw]
     symm
     rw [Bool.or_eq_false_iff]
     refine ⟨decide_eq_false (fun e=>hw (by rw [e])),?_⟩
     rw [Bool.eq_false_iff]
     intro h3
     obtain ⟨y,hy,he⟩:=List.any_eq_true.1 h3
     have he:=of_decide_eq_true he
     have:=hu x (hm x (List.mem_cons_self ..)) y (hm y (List.mem_cons_of_mem _ hy)) (by rw [he]; exact hc.1) (by rw [he]; exact hc.2)
     exact hw (by rw [this,he])
   ·rw [if_neg hc]
    simp only [Option.bind_some,selim]
    rw [ih (i+1) (fun y hy=>hm y (List.mem_cons_of_mem _ hy))]
    simp only [List.any_cons,decide_eq_false hc,Bool.false_or]
    have:Zct (x::l) id t o.weight=Zct l id t o.weight:=by
     unfold Zct
     rw [List.any_cons,decide_eq_false (fun e=>hc (by rw [e]; exact ⟨rfl,rfl⟩)),Bool.false_or]
    rw [this]
 rw [e,key w.bookings 0 (fun x h=>h)]
 cases ha:w.bookings.any (fun y=>decide (y.thing=id∧y.trip=t)) with
 | true=>rfl
 | false=>
  show some false=_
  congr 1
  symm
  unfold Zct
  rw [Bool.eq_false_iff]
  intro h3
  obtain ⟨y,hy,he⟩:=List.any_eq_true.1 h3
  have he:=of_decide_eq_true he
  have:=List.any_eq_false.1 ha y hy
  apply this
  rw [he]; simp
def ZdJ (n:YNetwork) (way:List YTrip) (to_:ByteArray) (s0:Int × ByteArray × Int):Option ((Int × ByteArray × Int) ⊕ (ByteArray ⊕ Bool)):=
 cond (decide (s0.2.2<(way.length:Int)))
 ((getI way s0.2.2).bind fun y5=>
 (ZW n y5).bind fun y6=>
 cond (!y6)
 (some (.inr (.inr false)))
 ((getI n.legs y5.leg).bind fun y7=>
 cond (!decide (y7.from_=s0.2.1))
 (some (.inr (.inr false)))
 ((Zah n y5).bind fun y8=>
 cond (decide (y8<s0.1))
 (some (.inr (.inr false)))
 ((getI n.legs y5.leg).bind fun y9=>
 (getI way s0.2.2).bind fun y10=>
 (ZF n y10).bind fun y11=>
 some (.inl ((w64 (y11+n.change)),y9.to_,(w64 (s0.2.2+1))))))))
 (some (.inr (.inl s0.2.1)))
instance (n:YNetwork) (way:List YTrip) (to_:ByteArray):LoopE (ZdJ n way to_):=⟨fun s0=>(.un::.sl (way.map cTrip)::.un::vs to_::vi s0.1::.be 0 0 0::(U 6 (vs s0.2.1::(U 20 (.sl (way.map cTrip)::vi (way.length:Int)::vi s0.2.2::(U 46 [])))))),fun s0=>[some ⟨.of 35,3,[[.sl (n.legs.map cLeg),.sl (n.off.map cInt),vi n.change]]⟩]⟩
def Zec (n:YNetwork) (way:List YTrip) (from2_:ByteArray) (to_:ByteArray) (at4_:Int):Option Bool:=
 (ZD n).bind fun y1=>
 (Zas n).bind fun y2=>
 cond (!y2)
 (some false)
 ((Zk y1 from2_).bind fun y3=>
 cond (decide (y3<0))
 (some false)
 ((Zk y1 to_).bind fun y4=>
 cond (decide (y4<0))
 (some false)
 ((iterF (ZdJ n way to_) NN (at4_,from2_,0)).bind (selim (fun o0=>
 some (decide (o0=to_))) (fun r=>some r)))))
instance (n:YNetwork) (way:List YTrip) (from2_:ByteArray) (to_:ByteArray) (at4_:Int):CT Tryz.prog (Zec n way from2_ to_ at4_):=⟨208,[.ag (cNetwork n),.sl (way.map cTrip),vs from2_,vs to_,vi at4_],[],fun r=>vb r,fun r=>[],fun H=>by replace H:=H0 H; unfold Zec at H; exact callM_of Tryz.func208 rfl Tryz.ntmps208 Tryz.results208 fun Q hQ hQn=>wk3⟩
def ZE (n:YNetwork) (way:List YTrip) (to_:ByteArray) (s0:ByteArray × Int × Int):Option ((ByteArray × Int × Int) ⊕ (ByteArray ⊕ Bool)):=
 cond (decide (s0.2.2<(way.length:Int)))
 ((getI way s0.2.2).bind fun y5=>
 (ZM n y5).bind fun y6=>
 cond (!y6)
 (some (.inr (.inr false)))
 ((getI way s0.2.2).bind fun y7=>
 (getI n.legs y7.leg).bind fun y8=>
 cond (!decide (y8.from_=s0.1))
 (some (.inr (.inr false)))
 ((getI way s0.2.2).bind fun y9=>
 (Zg n y9).bind fun y10=>
 cond (decide (y10<s0.2.1))
 (some (.inr (.inr false)))
 ((getI way s0.2.2).bind fun y11=>
 (getI n.legs y11.leg).bind fun y12=>
 (getI way s0.2.2).bind fun y13=>
 (Ze n y13).bind fun y14=>
 some (.inl (y12.to_,(w64 (y14+n.change)),(w64 (s0.2.2+1))))))))
 (some (.inr (.inl s0.1)))
instance (n:YNetwork) (way:List YTrip) (to_:ByteArray):LoopE (ZE n way to_):=⟨fun s0=>(.un::.sl (way.map cTrip)::.un::vs to_::.un::.be 0 0 0::(U 6 (vs s0.1::vi s0.2.1::vi s0.2.2::(U 78 [])))),fun s0=>[some ⟨.of 35,3,[[.sl (n.legs.map cLeg),.sl (n.off.map cInt),vi n.change]]⟩]⟩
def Zan (n:YNetwork) (way:List YTrip) (from2_:ByteArray) (to_:ByteArray) (at4_:Int):Option Bool:=
 (ZO n).bind fun y1=>
 (Zb n).bind fun y2=>
 cond (!y2)
 (some false)
 ((Zp y1 from2_).bind fun y3=>
 cond (decide (y3<0))
 (some false)
 ((Zp y1 to_).bind fun y4=>
 cond (decide (y4<0))
 (some false)
 ((iterF (ZE n way to_) NN (from2_,at4_,0)).bind (selim (fun o0=>
 some (decide (o0=to_))) (fun r=>some r)))))
instance (n:YNetwork) (way:List YTrip) (from2_:ByteArray) (to_:ByteArray) (at4_:Int):CT Tryz.prog (Zan n way from2_ to_ at4_):=⟨187,[.ag (cNetwork n),.sl (way.map cTrip),vs from2_,vs to_,vi at4_],[],fun r=>vb r,fun r=>[],fun H=>by replace H:=H0 H; unfold Zan at H; exact callM_of Tryz.func187 rfl Tryz.ntmps187 Tryz.results187 fun Q hQ hQn=>wk3⟩
def ZdI (n:YNetwork) (s:YScan):Option Bool:=
 (Zas n).bind fun y1=>
 cond (!y1)
 (some false)
 ((Zj s.thing 1 9999).bind fun y2=>
 cond (!y2)
 (some false)
 ((Zj s.at_ 0 100000).bind fun y3=>
 cond (!y3)
 (some false)
 (cond (decide (s.kind=1))
 (cond (decide (s.kind=1))
 ((ZD n).bind fun y4=>
 (Zk y4 s.place).bind fun y5=>
 cond (decide (0≤y5))
 (some (decide (s.trip=(⟨0,0⟩:YTrip))))
 (some false))
 (cond (decide (s.kind=3))
 (cond (decide (s.place=⟨#[]⟩))
 ((ZW n s.trip).bind fun y6=>
 cond y6
 ((Zah n s.trip).bind fun y7=>
 some (decide (s.at_≤y7)))
 (some false))
 (some false))
 (cond (decide (s.kind=2))
 (cond (decide (s.place=⟨#[]⟩))
 ((ZW n s.trip).bind fun y8=>
 cond y8
 ((ZF n s.trip).bind fun y9=>
 some (decide (y9≤s.at_)))
 (some false))
 (some false))
 (some false))))
 (cond (decide (s.kind=4))
 ((ZD n).bind fun y10=>
 (Zk y10 s.place).bind fun y11=>
 cond (decide (0≤y11))
 (some (decide (s.trip=(⟨0,0⟩:YTrip))))
 (some false))
 (cond (decide (s.kind=3))
 (cond (decide (s.place=⟨#[]⟩))
 ((ZW n s.trip).bind fun y12=>
 cond y12
 ((Zah n s.trip).bind fun y13=>
 some (decide (s.at_≤y13)))
 (some false))
 (some false))
 (cond (decide (s.kind=2))
 (cond (decide (s.place=⟨#[]⟩))
 ((ZW n s.trip).bind fun y14=>
 cond y14
 ((ZF n s.trip).bind fun y15=>
 some (decide (y15≤s.at_)))
 (some false))
 (some false))
 (some false)))))))
instance (n:YNetwork) (s:YScan):CT Tryz.prog (ZdI n s):=⟨140,[.ag (cNetwork n),.ag (cScan s)],[],fun r=>vb r,fun r=>[],fun H=>by replace H:=H0 H; unfold ZdI at H; exact callM_of Tryz.func140 rfl Tryz.ntmps140 Tryz.results140 fun Q hQ hQn=>wk3⟩
def Zai (n:YNetwork) (s:YScan):Option Bool:=
 (Zb n).bind fun y1=>
 cond (!y1)
 (some false)
 ((Zo s.thing 1 9999).bind fun y2=>
 cond (!y2)
 (some false)
 ((Zo s.at_ 0 100000).bind fun y3=>
 cond (!y3)
 (some false)
 (cond (decide (s.kind=1))
 (cond (decide (s.kind=1))
 ((ZO n).bind fun y4=>
 (Zp y4 s.place).bind fun y5=>
 cond (decide (0≤y5))
 (some (decide (s.trip=(⟨0,0⟩:YTrip))))
 (some false))
 (cond (decide (s.kind=3))
 (cond (decide (s.place=⟨#[]⟩))
 ((ZM n s.trip).bind fun y6=>
 cond y6
 ((Zg n s.trip).bind fun y7=>
 some (decide (s.at_≤y7)))
 (some false))
 (some false))
 (cond (decide (s.kind=2))
 (cond (decide (s.place=⟨#[]⟩))
 ((ZM n s.trip).bind fun y8=>
 cond y8
 ((Ze n s.trip).bind fun y9=>
 some (decide (y9≤s.at_)))
 (some false))
 (some false))
 (some false))))
 (cond (decide (s.kind=4))
 ((ZO n).bind fun y10=>
 (Zp y10 s.place).bind fun y11=>
 cond (decide (0≤y11))
 (some (decide (s.trip=(⟨0,0⟩:YTrip))))
 (some false))
 (cond (decide (s.kind=3))
 (cond (decide (s.place=⟨#[]⟩))
 ((ZM n s.trip).bind fun y12=>
 cond y12
 ((Zg n s.trip).bind fun y13=>
 some (decide (s.at_≤y13)))
 (some false))
 (some false))
 (cond (decide (s.kind=2))
 (cond (decide (s.place=⟨#[]⟩))
 ((ZM n s.trip).bind fun y14=>
 cond y14
 ((Ze n s.trip).bind fun y15=>
 some (decide (y15≤s.at_)))
 (some false))
 (some false))
 (some false)))))))
instance (n:YNetwork) (s:YScan):CT Tryz.prog (Zai n s):=⟨110,[.ag (cNetwork n),.ag (cScan s)],[],fun r=>vb r,fun r=>[],fun H=>by replace H:=H0 H; unfold Zai at H; exact callM_of Tryz.func110 rfl Tryz.ntmps110 Tryz.results110 fun Q hQ hQn=>wk3⟩
theorem ZlD {σ τ ο:Type} {f:σ→Option (σ ⊕ ο)} {g:τ→Option (τ ⊕ ο)} (φ:σ→τ) (h:∀ s,g (φ s)=(f s).bind (selim (fun s'=>some (.inl (φ s'))) (fun r=>some (.inr r)))):∀ (N:Nat) (s:σ),iterF g N (φ s)=iterF f N s
 | 0,s=>rfl
 | N+1,s=>by
  simp only [iterF,h]
  cases f s with
  | none=>rfl
  | some o=>
   cases o with
   | inl s'=>exact ZlD φ h N s'
   | inr r=>rfl
theorem Zl6 {n:YNetwork} (h:ZZ n) {t:YTrip} (ht:ZM n t=some true):∃ y,getI n.legs t.leg=some y:=by
 unfold ZM ZbV at ht
 obtain ⟨_,b,hb⟩:=Zcr h
 obtain ⟨_,b2,hb2⟩:=ZeJ h t.leg t.day
 rw [hb] at ht
 simp only [Option.bind_some,hb2] at ht
 cases b with
 | false=>simp at ht
 | true=>
  simp at ht
  subst ht
  exact Zhc h hb2
theorem ZeB {n:YNetwork} {t:YTrip} {y:YLeg} (h:getI n.legs t.leg=some y):∃ v,Zg n t=some v:=by
 unfold Zg; rw [h]; exact ⟨_,rfl⟩
theorem ZnA {n:YNetwork} (h:ZZ n) (s:YScan):ZdI n s=Zai n s:=by
 unfold ZdI Zai
 rw [(Zcr h).1,ZdU,(ZaL h).1,(ZeL h s.trip).1,Zgm,Zgx,Zdd]
theorem Zky {n:YNetwork} (h:ZZ n) (s:YScan):∃ b,Zai n s=some b:=by
 obtain ⟨_,b,hb⟩:=Zcr h
 have hp:=(ZaL h).2
 have hpl:=Zbk n
 have hl:=h.legs
 obtain ⟨_,b2,hb2⟩:=ZeL h s.trip
 unfold Zai
 rw [hb,hp,hb2]
 simp only [Option.bind_some,ZcU,Zet (show (Za n).length≤4194304 by omega)]
 cases b with
 | false=>exact ⟨_,rfl⟩
 | true=>
  cases decide (1≤s.thing) && decide (s.thing≤9999) <;> try exact ⟨_,rfl⟩
  cases decide (0≤s.at_) && decide (s.at_≤100000) <;> try exact ⟨_,rfl⟩
  cases decide (0≤idxV (Za n) s.place)
  all_goals
   cases b2 with
   | false=>cases decide (s.kind=1) <;> cases decide (s.kind=3) <;> cases decide (s.kind=2) <;> cases decide (s.kind=4) <;> cases decide (s.place=⟨#[]⟩) <;> exact ⟨_,rfl⟩
   | true=>
    obtain ⟨y,hy⟩:=Zl6 h hb2
    obtain ⟨v1,hv1⟩:=ZeB hy
    obtain ⟨v2,hv2⟩:=ZdF hy
    rw [hv1,hv2]
    cases decide (s.kind=1) <;> cases decide (s.kind=3) <;> cases decide (s.kind=2) <;> cases decide (s.kind=4) <;> cases decide (s.place=⟨#[]⟩) <;> exact ⟨_,rfl⟩
theorem ZoT {n:YNetwork} (h:ZZ n) (way:List YTrip) (a b:ByteArray) (t:Int):Zec n way a b t=Zan n way a b t:=by
 have e:iterF (ZdJ n way b) NN (t,a,0)=iterF (ZE n way b) NN (a,t,0):=by
  refine ZlD (f:=ZE n way b) (fun s:ByteArray × Int × Int=>(s.2.1,s.1,s.2.2)) (fun s=>?_) NN (a,t,0)
  unfold ZdJ ZE
  simp only
  cases decide (s.2.2<(way.length:Int)) with
  | false=>rfl
  | true=>
   simp only [cond_true]
   cases hg:getI way s.2.2 with
   | none=>rfl
   | some y=>
    simp only [Option.bind_some,(ZeL h y).1,Zgm,Zgx]
    cases ZM n y with
    | none=>rfl
    | some c=>
     cases c with
     | false=>rfl
     | true=>
      simp only [Option.bind_some,Bool.not_true,cond_false]
      cases getI n.legs y.leg with
      | none=>rfl
      | some g=>
       simp only [Option.bind_some]
       cases decide (g.from_=s.1) with
       | false=>rfl
       | true=>
        simp only [Bool.not_true,cond_false]
        cases Zg n y with
        | none=>rfl
        | some v=>
         simp only [Option.bind_some]
         cases decide (v<s.2.1) with
         | true=>rfl
         | false=>
          simp only [cond_false]
          cases Ze n y <;> rfl
 unfold Zec Zan
 rw [(Zcr h).1,(ZaL h).1,Zdd,e]
theorem Zgz {n:YNetwork} (h:ZZ n) {way:List YTrip} (hw:way.length≤1048576) (a b:ByteArray) (t:Int):∃ r,Zan n way a b t=some r:=by
 obtain ⟨_,b1,hb⟩:=Zcr h
 have hp:=(ZaL h).2
 have hpl:=Zbk n
 have hl:=h.legs
 have e:∃ o,iterF (ZE n way b) NN (a,t,0)=some o:=by
  refine Zg9 (fun k s=>∃ i:Nat,i+k=way.length∧s.2.2=(i:Int)) ?_ NN way.length _ ⟨0,by omega,rfl⟩ (by unfold NN; omega)
  rintro k ⟨p,r,s⟩ ⟨i,hi,hs⟩
  simp only at hs
  subst hs
  unfold ZE
  rcases Nat.lt_or_ge i way.length with hlt | hge
  ·have hw:=Zt hlt (by omega)
   have hg:getI way (i:Int)=some way[i]:=by rw [Zd]; exact List.getElem?_eq_getElem hlt
   obtain ⟨_,c,hc⟩:=ZeL h way[i]
   simp only [decide_eq_true (show (i:Int)<way.length by omega),cond_true,hg,Option.bind_some,hc,hw]
   cases c with
   | false=>exact ⟨_,rfl,fun s' e=>by cases e⟩
   | true=>
    obtain ⟨y,hy⟩:=Zl6 h hc
    obtain ⟨v1,hv1⟩:=ZeB hy
    obtain ⟨v2,hv2⟩:=ZdF hy
    simp only [hy,hv1,hv2,Option.bind_some,Bool.not_true,cond_false]
    cases decide (y.from_=p) with
    | false=>exact ⟨_,rfl,fun s' e=>by cases e⟩
    | true=>
     simp only [Bool.not_true,cond_false]
     cases decide (v1<r) with
     | true=>exact ⟨_,rfl,fun s' e=>by cases e⟩
     | false=>exact ⟨_,rfl,fun s' e=>by cases e; exact ⟨k-1,by omega,i+1,by omega,rfl⟩⟩
  ·simp only [decide_eq_false (show ¬ (i:Int)<way.length by omega),cond_false]
   exact ⟨_,rfl,fun s' e=>by cases e⟩
 obtain ⟨o,ho⟩:=e
 unfold Zan
 rw [hp,hb]
 simp only [Option.bind_some,Zet (show (Za n).length≤4194304 by omega),ho]
 cases b1 with
 | false=>exact ⟨_,rfl⟩
 | true=>cases decide (idxV (Za n) a<0) <;> cases decide (idxV (Za n) b<0) <;> cases o <;> exact ⟨_,rfl⟩
def Zce (w:YWorld) (id:Int) (y1:YOrder) (s0:ByteArray × Int):Option ((ByteArray × Int) ⊕ (ByteArray ⊕ Bool)):=
 cond (decide (s0.2<(y1.way.length:Int)))
 ((getI y1.way s0.2).bind fun y9=>
 (ZW w.network y9).bind fun y10=>
 cond (!y10)
 (some (.inr (.inr false)))
 ((Zcd w id y9).bind fun y11=>
 cond (!y11)
 (some (.inr (.inr false)))
 ((Zbq y1).bind fun y12=>
 cond (decide (y12≤s0.2))
 ((ZaC w.closed y9).bind fun y13=>
 cond y13
 (some (.inr (.inr false)))
 ((getI w.network.legs y9.leg).bind fun y14=>
 cond (decide (y14.to_=y1.to_))
 (cond (decide (s0.2<(w64 ((y1.way.length:Int)-1))))
 (some (.inr (.inr false)))
 (some (.inl (y14.to_,(w64 (s0.2+1))))))
 (some (.inl (y14.to_,(w64 (s0.2+1)))))))
 ((getI w.network.legs y9.leg).bind fun y15=>
 cond (decide (y15.to_=y1.to_))
 (cond (decide (s0.2<(w64 ((y1.way.length:Int)-1))))
 (some (.inr (.inr false)))
 (some (.inl (y15.to_,(w64 (s0.2+1))))))
 (some (.inl (y15.to_,(w64 (s0.2+1)))))))))
 (some (.inr (.inl s0.1)))
instance (w:YWorld) (id:Int) (y1:YOrder):LoopE (Zce w id y1):=⟨fun s0=>(.un::vi id::.un::.be 0 0 0::(U 3 (.be 1 0 0::vs s0.1::(U 65 (.sl (y1.way.map cTrip)::vi (y1.way.length:Int)::vi s0.2::(U 65 [])))))),fun s0=>[some ⟨.of 41,10,[[.sl (w.network.legs.map cLeg),.sl (w.network.off.map cInt),vi w.network.change,.sl (w.orders.map cOrder),.sl (w.bookings.map cBooking),.sl (w.closed.map cTrip),vi w.now,.sl (w.scans.map cScan),.sl (w.skip.map cInt),vi w.made]]⟩,some ⟨.of 62,11,[[vs y1.from_,vs y1.to_,vi y1.service,vi y1.weight,vi y1.at_,vi y1.due,.sl (y1.way.map cTrip),vi y1.gone,vi y1.state,vs y1.place,vi y1.ended]]⟩]⟩
def Zdj (w:YWorld) (id:Int) (places:List ByteArray):Option Bool:=
 (getI w.orders (w64 (id-1))).bind fun y1=>
 cond (decide (y1.from_=y1.to_))
 (some false)
 ((Zk places y1.from_).bind fun y2=>
 cond (decide (y2<0))
 (some false)
 ((Zk places y1.to_).bind fun y3=>
 cond (decide (y3<0))
 (some false)
 ((Zj y1.service 1 3).bind fun y4=>
 cond (!y4)
 (some false)
 ((Zj y1.weight 1 30000).bind fun y5=>
 cond (!y5)
 (some false)
 ((Zj y1.at_ 0 w.now).bind fun y6=>
 cond (!y6)
 (some false)
 ((Zj y1.due 0 200000).bind fun y7=>
 cond (!y7)
 (some false)
 ((Zj y1.gone 0 (y1.way.length:Int)).bind fun y8=>
 cond (!y8)
 (some false)
 ((iterF (Zce w id y1) NN (y1.from_,0)).bind (selim (fun o0=>
 (Zec w.network y1.way y1.from_ o0 (w64 (y1.at_+1))).bind fun y16=>
 cond y16
 ((Zdk w y1).bind fun y17=>
 some y17)
 (some false)) (fun r=>some r))))))))))
instance (w:YWorld) (id:Int) (places:List ByteArray):CT Tryz.prog (Zdj w id places):=⟨142,[.ag (cWorld w),vi id,.sl (places.map cStr)],[],fun r=>vb r,fun r=>[],fun H=>by replace H:=H0 H; unfold Zdj at H; exact callM_of Tryz.func142 rfl Tryz.ntmps142 Tryz.results142 fun Q hQ hQn=>wk3⟩
def ZbW (w:YWorld) (i:Int) (y1:YOrder) (s0:ByteArray × Int):Option ((ByteArray × Int) ⊕ (ByteArray ⊕ Bool)):=
 cond (decide (s0.2<(y1.way.length:Int)))
 ((getI y1.way s0.2).bind fun y10=>
 (getI y1.way s0.2).bind fun y11=>
 (Zw w.network y10.leg y11.day).bind fun y12=>
 cond (!y12)
 (some (.inr (.inr false)))
 ((getI y1.way s0.2).bind fun y13=>
 (ZcK w.bookings (w64 (i+1)) y13 y1.weight).bind fun y14=>
 cond (!y14)
 (some (.inr (.inr false)))
 ((getI y1.way s0.2).bind fun y15=>
 (getI w.network.legs y15.leg).bind fun y16=>
 cond (decide (y16.to_=y1.to_))
 (cond (decide ((w64 (s0.2+1))<(y1.way.length:Int)))
 (some (.inr (.inr false)))
 (some (.inl (y16.to_,(w64 (s0.2+1))))))
 (some (.inl (y16.to_,(w64 (s0.2+1))))))))
 (some (.inr (.inl s0.1)))
instance (w:YWorld) (i:Int) (y1:YOrder):LoopE (ZbW w i y1):=⟨fun s0=>(.un::vi i::.be 0 0 0::.un::.un::.be 1 0 0::.be 2 0 0::.un::vs s0.1::vi s0.2::(U 162 [])),fun s0=>[some ⟨.of 41,10,[[.sl (w.network.legs.map cLeg),.sl (w.network.off.map cInt),vi w.network.change,.sl (w.orders.map cOrder),.sl (w.bookings.map cBooking),.sl (w.closed.map cTrip),vi w.now,.sl (w.scans.map cScan),.sl (w.skip.map cInt),vi w.made]]⟩,some ⟨.of 35,3,[[.sl (w.network.legs.map cLeg),.sl (w.network.off.map cInt),vi w.network.change]]⟩,some ⟨.of 62,11,[[vs y1.from_,vs y1.to_,vi y1.service,vi y1.weight,vi y1.at_,vi y1.due,.sl (y1.way.map cTrip),vi y1.gone,vi y1.state,vs y1.place,vi y1.ended]]⟩]⟩
def Zba (w:YWorld) (y1:YOrder) (s1:Int):Option (Int ⊕ (Unit ⊕ Bool)):=
 cond (decide (s1<(y1.way.length:Int)))
 ((getI y1.way s1).bind fun y20=>
 (Zar w.closed y20).bind fun y21=>
 cond y21
 (some (.inr (.inr false)))
 (some (.inl (w64 (s1+1)))))
 (some (.inr (.inl ())))
instance (w:YWorld) (y1:YOrder):LoopE (Zba w y1):=⟨fun s1=>(.un::.un::.be 0 0 0::(U 3 (.be 1 0 0::(U 3 (vi s1::(U 161 [])))))),fun s1=>[some ⟨.of 41,10,[[.sl (w.network.legs.map cLeg),.sl (w.network.off.map cInt),vi w.network.change,.sl (w.orders.map cOrder),.sl (w.bookings.map cBooking),.sl (w.closed.map cTrip),vi w.now,.sl (w.scans.map cScan),.sl (w.skip.map cInt),vi w.made]]⟩,some ⟨.of 62,11,[[vs y1.from_,vs y1.to_,vi y1.service,vi y1.weight,vi y1.at_,vi y1.due,.sl (y1.way.map cTrip),vi y1.gone,vi y1.state,vs y1.place,vi y1.ended]]⟩]⟩
def Zc1 (w:YWorld) (i:Int):Option Bool:=
 (getI w.orders i).bind fun y1=>
 (ZO w.network).bind fun y2=>
 (Zp y2 y1.from_).bind fun y3=>
 cond (decide (y3<0))
 (some false)
 ((Zp y2 y1.to_).bind fun y4=>
 cond (decide (y4<0))
 (some false)
 (cond (decide (y1.from_=y1.to_))
 (some false)
 ((Zo y1.service 1 3).bind fun y5=>
 cond (!y5)
 (some false)
 ((Zo y1.weight 1 30000).bind fun y6=>
 cond (!y6)
 (some false)
 ((Zo y1.at_ 0 w.now).bind fun y7=>
 cond (!y7)
 (some false)
 ((Zo y1.due 0 200000).bind fun y8=>
 cond (!y8)
 (some false)
 ((Zo y1.gone 0 (y1.way.length:Int)).bind fun y9=>
 cond (!y9)
 (some false)
 ((iterF (ZbW w i y1) NN (y1.from_,0)).bind (selim (fun o0=>
 (Zan w.network y1.way y1.from_ o0 (w64 (y1.at_+1))).bind fun y17=>
 cond (!y17)
 (some false)
 ((Zl w.network y1 w.now).bind fun y18=>
 cond (!y18)
 (some false)
 ((ZaO y1).bind fun y19=>
 (iterF (Zba w y1) NN y19).bind (selim (fun o1=>
 some true) (fun r=>some r))))) (fun r=>some r))))))))))
instance (w:YWorld) (i:Int):CT Tryz.prog (Zc1 w i):=⟨111,[.ag (cWorld w),vi i],[],fun r=>vb r,fun r=>[],fun H=>by replace H:=H0 H; unfold Zc1 at H; exact callM_of Tryz.func111 rfl Tryz.ntmps111 Tryz.results111 fun Q hQ hQn=>wk3⟩
def Zb8 (w:YWorld) (s0:Int):Option (Int ⊕ (Unit ⊕ Bool)):=
 cond (decide (s0<(w.closed.length:Int)))
 ((getI w.closed s0).bind fun y4=>
 (ZW w.network y4).bind fun y5=>
 cond (!y5)
 (some (.inr (.inr false)))
 ((chk (slOk 0 s0 w.closed.length)).bind fun _=>
 (ZaC (subL w.closed 0 s0) y4).bind fun y6=>
 cond y6
 (some (.inr (.inr false)))
 (some (.inl (w64 (s0+1))))))
 (some (.inr (.inl ())))
instance (w:YWorld):LoopE (Zb8 w):=⟨fun s0=>(.un::.be 0 0 0::.un::.be 1 0 0::(U 55 (.sl (w.closed.map cTrip)::vi (w.closed.length:Int)::vi s0::(U 63 [])))),fun s0=>[some ⟨.of 41,10,[[.sl (w.network.legs.map cLeg),.sl (w.network.off.map cInt),vi w.network.change,.sl (w.orders.map cOrder),.sl (w.bookings.map cBooking),.sl (w.closed.map cTrip),vi w.now,.sl (w.scans.map cScan),.sl (w.skip.map cInt),vi w.made]]⟩,some ⟨.of 35,3,[[.sl (w.network.legs.map cLeg),.sl (w.network.off.map cInt),vi w.network.change]]⟩]⟩
def Zb9 (w:YWorld) (s1:Int):Option (Int ⊕ (Unit ⊕ Bool)):=
 cond (decide (s1<(w.scans.length:Int)))
 ((getI w.scans s1).bind fun y7=>
 (ZdI w.network y7).bind fun y8=>
 cond (!y8)
 (some (.inr (.inr false)))
 (cond (decide (w.now<y7.at_))
 (some (.inr (.inr false)))
 (some (.inl (w64 (s1+1))))))
 (some (.inr (.inl ())))
instance (w:YWorld):LoopE (Zb9 w):=⟨fun s1=>(.un::.be 0 0 0::.un::.be 1 0 0::(U 76 (.sl (w.scans.map cScan)::vi (w.scans.length:Int)::vi s1::(U 42 [])))),fun s1=>[some ⟨.of 41,10,[[.sl (w.network.legs.map cLeg),.sl (w.network.off.map cInt),vi w.network.change,.sl (w.orders.map cOrder),.sl (w.bookings.map cBooking),.sl (w.closed.map cTrip),vi w.now,.sl (w.scans.map cScan),.sl (w.skip.map cInt),vi w.made]]⟩,some ⟨.of 35,3,[[.sl (w.network.legs.map cLeg),.sl (w.network.off.map cInt),vi w.network.change]]⟩]⟩
def Zca (w:YWorld) (y9:List ByteArray) (s2:Int × Int):Option ((Int × Int) ⊕ (Int ⊕ Bool)):=
 cond (decide (s2.2<(w.orders.length:Int)))
 ((getI w.orders s2.2).bind fun y10=>
 (Zdj w (w64 (s2.2+1)) y9).bind fun y11=>
 cond (!y11)
 (some (.inr (.inr false)))
 (some (.inl ((w64 (s2.1+(y10.way.length:Int))),(w64 (s2.2+1))))))
 (some (.inr (.inl s2.1)))
instance (w:YWorld) (y9:List ByteArray):LoopE (Zca w y9):=⟨fun s2=>(.un::.be 0 0 0::(U 6 (.ms 1::vi s2.1::(U 91 (.sl (w.orders.map cOrder)::vi (w.orders.length:Int)::vi s2.2::(U 21 [])))))),fun s2=>[some ⟨.of 41,10,[[.sl (w.network.legs.map cLeg),.sl (w.network.off.map cInt),vi w.network.change,.sl (w.orders.map cOrder),.sl (w.bookings.map cBooking),.sl (w.closed.map cTrip),vi w.now,.sl (w.scans.map cScan),.sl (w.skip.map cInt),vi w.made]]⟩,some ⟨.of 9,1,y9.map cStr⟩]⟩
def Zdi (w:YWorld):Option Bool:=
 (Za5 w.network w.bookings).bind fun y1=>
 cond (!y1)
 (some false)
 ((Zj w.now 0 100000).bind fun y2=>
 cond (!y2)
 (some false)
 (cond (decide (30<(w.orders.length:Int)))
 (some false)
 (cond (decide (20<(w.closed.length:Int)))
 (some false)
 (cond (decide (200<(w.scans.length:Int)))
 (some false)
 (cond (decide (50<(w.skip.length:Int)))
 (some false)
 ((Zj w.made (w.scans.length:Int) 1000000000).bind fun y3=>
 cond (!y3)
 (some false)
 ((iterF (Zb8 w) NN 0).bind (selim (fun o0=>
 (iterF (Zb9 w) NN 0).bind (selim (fun o1=>
 (ZD w.network).bind fun y9=>
 (iterF (Zca w y9) NN (0,0)).bind (selim (fun o2=>
 some (decide (o2=(w.bookings.length:Int)))) (fun r=>some r))) (fun r=>some r))) (fun r=>some r)))))))))
instance (w:YWorld):CT Tryz.prog (Zdi w):=⟨48,[.ag (cWorld w)],[],fun r=>vb r,fun r=>[],fun H=>by replace H:=H0 H; unfold Zdi at H; exact callM_of Tryz.func48 rfl Tryz.ntmps48 Tryz.results48 fun Q hQ hQn=>wk3⟩
def Zcn (w:YWorld) (s0:Int):Option (Int ⊕ (Unit ⊕ Bool)):=
 cond (decide (s0<(w.closed.length:Int)))
 ((getI w.closed s0).bind fun y4=>
 (getI w.closed s0).bind fun y5=>
 (Zw w.network y4.leg y5.day).bind fun y6=>
 cond (!y6)
 (some (.inr (.inr false)))
 ((chk (slOk 0 s0 w.closed.length)).bind fun _=>
 (getI w.closed s0).bind fun y7=>
 (Zar (subL w.closed 0 s0) y7).bind fun y8=>
 cond y8
 (some (.inr (.inr false)))
 (some (.inl (w64 (s0+1))))))
 (some (.inr (.inl ())))
instance (w:YWorld):LoopE (Zcn w):=⟨fun s0=>(.un::.be 0 0 0::.un::vi s0::(U 135 [])),fun s0=>[some ⟨.of 41,10,[[.sl (w.network.legs.map cLeg),.sl (w.network.off.map cInt),vi w.network.change,.sl (w.orders.map cOrder),.sl (w.bookings.map cBooking),.sl (w.closed.map cTrip),vi w.now,.sl (w.scans.map cScan),.sl (w.skip.map cInt),vi w.made]]⟩]⟩
def Zco (w:YWorld) (s1:Int):Option (Int ⊕ (Unit ⊕ Bool)):=
 cond (decide (s1<(w.scans.length:Int)))
 ((getI w.scans s1).bind fun y9=>
 (Zai w.network y9).bind fun y10=>
 cond (!y10)
 (some (.inr (.inr false)))
 ((getI w.scans s1).bind fun y11=>
 cond (decide (w.now<y11.at_))
 (some (.inr (.inr false)))
 (some (.inl (w64 (s1+1))))))
 (some (.inr (.inl ())))
instance (w:YWorld):LoopE (Zco w):=⟨fun s1=>(.un::.be 0 0 0::.un::.un::vi s1::(U 134 [])),fun s1=>[some ⟨.of 41,10,[[.sl (w.network.legs.map cLeg),.sl (w.network.off.map cInt),vi w.network.change,.sl (w.orders.map cOrder),.sl (w.bookings.map cBooking),.sl (w.closed.map cTrip),vi w.now,.sl (w.scans.map cScan),.sl (w.skip.map cInt),vi w.made]]⟩]⟩
def Zcp (w:YWorld) (s2:Int × Int):Option ((Int × Int) ⊕ (Int ⊕ Bool)):=
 cond (decide (s2.2<(w.orders.length:Int)))
 ((Zc1 w s2.2).bind fun y12=>
 cond (!y12)
 (some (.inr (.inr false)))
 ((getI w.orders s2.2).bind fun y13=>
 some (.inl ((w64 (s2.1+(y13.way.length:Int))),(w64 (s2.2+1))))))
 (some (.inr (.inl s2.1)))
instance (w:YWorld):LoopE (Zcp w):=⟨fun s2=>(.un::.be 0 0 0::(U 3 (vi s2.1::vi s2.2::(U 132 [])))),fun s2=>[some ⟨.of 41,10,[[.sl (w.network.legs.map cLeg),.sl (w.network.off.map cInt),vi w.network.change,.sl (w.orders.map cOrder),.sl (w.bookings.map cBooking),.sl (w.closed.map cTrip),vi w.now,.sl (w.scans.map cScan),.sl (w.skip.map cInt),vi w.made]]⟩]⟩
def Zdq (w:YWorld):Option Bool:=
 (ZX w.network w.bookings).bind fun y1=>
 cond (!y1)
 (some false)
 ((Zo w.now 0 100000).bind fun y2=>
 cond (!y2)
 (some false)
 (cond (decide (30<(w.orders.length:Int)))
 (some false)
 (cond (decide (20<(w.closed.length:Int)))
 (some false)
 (cond (decide (200<(w.scans.length:Int)))
 (some false)
 (cond (decide (50<(w.skip.length:Int)))
 (some false)
 ((Zo w.made (w.scans.length:Int) 1000000000).bind fun y3=>
 cond (!y3)
 (some false)
 ((iterF (Zcn w) NN 0).bind (selim (fun o0=>
 (iterF (Zco w) NN 0).bind (selim (fun o1=>
 (iterF (Zcp w) NN (0,0)).bind (selim (fun o2=>
 some (decide (o2=(w.bookings.length:Int)))) (fun r=>some r))) (fun r=>some r))) (fun r=>some r)))))))))
instance (w:YWorld):CT Tryz.prog (Zdq w):=⟨24,[.ag (cWorld w)],[],fun r=>vb r,fun r=>[],fun H=>by replace H:=H0 H; unfold Zdq at H; exact callM_of Tryz.func24 rfl Tryz.ntmps24 Tryz.results24 fun Q hQ hQn=>wk3⟩
set_option linter.unusedSectionVars false
def allI {α:Type} (c:Nat→α→Bool):Nat→List α→Bool
 | _,[]=>true
 | i,x::xs=>c i x && allI c (i+1) xs
theorem Zdr {α:Type} {c:Nat→α→Bool}:∀ {xs:List α} {i:Nat},allI c i xs=true↔∀ (j:Nat) (x:α),xs[j]?=some x→c (i+j) x=true
 | [],i=>by simp [allI]
 | x::xs,i=>by
  simp only [allI,Bool.and_eq_true,Zdr]
  constructor
  ·rintro ⟨h1,h2⟩ j y hj
   cases j with
   | zero=>obtain rfl:x=y:=by simpa using hj
           exact h1
   | succ j=>have:=h2 j y (by simpa using hj); rwa [Nat.add_right_comm] at this
  ·intro h
   exact ⟨h 0 x rfl,fun j y hj=>by have:=h (j+1) y (by simpa using hj); rwa [← Nat.add_assoc,Nat.add_right_comm] at this⟩
theorem Zk7 {α:Type} (c d:Nat→α→Bool):∀ (xs:List α) (i:Nat),allI (fun i x=>c i x && d i x) i xs=(allI c i xs && allI d i xs)
 | [],i=>rfl
 | x::xs,i=>by
  simp only [allI,Zk7 c d xs (i+1)]
  cases c i x <;> cases d i x <;> cases allI c (i+1) xs <;> cases allI d (i+1) xs <;> rfl
theorem ZdH {A α σ γ:Type} {xs:List α} {body:σ→Option (σ ⊕ (γ ⊕ Bool))} (mk:A→Int→σ) (c:Nat→α→Bool) (f:A→α→A) (g:A→γ)
 (h1:∀ a (i:Nat) x,xs[i]?=some x→body (mk a i)=some (if c i x=true then .inl (mk (f a x) ((i+1:Nat):Int)) else .inr (.inr false)))
 (h2:∀ a,body (mk a (xs.length:Int))=some (.inr (.inl (g a)))) (hN:xs.length<NN) (a:A):iterF body NN (mk a 0)=some (if allI c 0 xs=true then .inl (g (xs.foldl f a)) else .inr false):=by
 rw [Zf8 mk (fun i a x=>some (if c i x=true then .inl (f a x) else .inr (.inr false))) (fun a=>some (.inl (g a))) (fun a i x hx=>by rw [h1 a i x hx]; cases c i x <;> rfl) (fun a=>by rw [h2 a]; rfl) hN a]
 have key:∀ (xs:List α) (i:Nat) (a:A),runL (fun i a x=>some (if c i x=true then (.inl (f a x):A ⊕ (γ ⊕ Bool)) else .inr (.inr false))) (fun a=>some (.inl (g a))) i xs a=some (if allI c i xs=true then .inl (g (xs.foldl f a)) else .inr false):=by
  intro xs
  induction xs with
  | nil=>intro i a; rfl
  | cons x xs ih=>
   intro i a
   simp only [runL,allI]
   by_cases hcx:c i x=true
   ·simp only [hcx,if_true,Option.bind_some,selim,ih,Bool.true_and,List.foldl_cons]
   ·simp only [Bool.not_eq_true] at hcx
    simp [hcx]
 exact key xs 0 a
/-! The parts of an order's test. -/
def Zc3 (n:YNetwork) (t:YTrip):Bool:=(Zw n t.leg t.day).getD false
def ZaS (n:YNetwork) (t:YTrip):ByteArray:=((getI n.legs t.leg).map (·.to_)).getD ⟨#[]⟩
def ZK (l:List YTrip) (t:YTrip):Bool:=l.any fun y=>decide (y=t)
theorem ZgF {n:YNetwork} (h:ZZ n) (t:YTrip):Zw n t.leg t.day=some (Zc3 n t):=by
 obtain ⟨_,b,hb⟩:=ZeJ h t.leg t.day
 unfold Zc3; rw [hb]; rfl
theorem ZbE {n:YNetwork} (h:ZZ n) {t:YTrip} (ht:Zc3 n t=true):∃ y,getI n.legs t.leg=some y∧y∈n.legs:=by
 have:=ZgF h t
 rw [ht] at this
 obtain ⟨y,hy⟩:=Zhc h this
 exact ⟨y,hy,Zg6 hy⟩
def wayC (w:YWorld) (id:Int) (o:YOrder) (i:Nat) (t:YTrip):Bool:=Zc3 w.network t && Zct w.bookings id t o.weight && !(decide (ZaS w.network t=o.to_) && decide (i+1<o.way.length))
def endV (n:YNetwork) (o:YOrder):ByteArray:=o.way.foldl (fun _ t=>ZaS n t) o.from_
def Zh (o:YOrder):Int:=if o.state=2 then o.gone+1 else o.gone
def Zej (w:YWorld) (i:Nat) (o:YOrder):Bool:=
 !decide (idxV (Za w.network) o.from_<0) && !decide (idxV (Za w.network) o.to_<0) && !decide (o.from_=o.to_) && (decide (1≤o.service) && decide (o.service≤3)) && (decide (1≤o.weight) && decide (o.weight≤30000)) && (decide (0≤o.at_) && decide (o.at_≤w.now)) && (decide (0≤o.due) && decide (o.due≤200000)) && (decide (0≤o.gone) && decide (o.gone≤(o.way.length:Int))) &&
  allI (wayC w ((i+1:Nat):Int) o) 0 o.way && (Zan w.network o.way o.from_ (endV w.network o) (w64 (o.at_+1))).getD false && (Zl w.network o w.now).getD false && !((o.way.drop (Zh o).toNat).any (ZK w.closed))
structure WFit (w:YWorld):Prop where
 net:ZZ w.network
 orders:w.orders.length≤1048576
 bookings:w.bookings.length≤1048576
 closed:w.closed.length≤1048576
 scans:w.scans.length≤1048576
 skip:w.skip.length≤1048576
 way:∀ o∈w.orders,o.way.length≤1048576
theorem Zix {n:YNetwork} {o:YOrder} (hg:0≤o.gone∧o.gone≤o.way.length) (hl:o.way.length≤1048576) (hw:∀ t∈o.way,∃ y,getI n.legs t.leg=some y) (now:Int):∃ b,Zl n o now=some b:=by
 have hat:∀ (i:Int),0≤i→i<o.way.length→∃ t y,getI o.way i=some t∧getI n.legs t.leg=some y:=by
  intro i h0 h1
  have hlt:i.toNat<o.way.length:=by omega
  obtain ⟨y,hy⟩:=hw o.way[i.toNat] (List.getElem_mem hlt)
  exact ⟨o.way[i.toNat],y,by unfold getI; rw [if_pos h0]; exact List.getElem?_eq_getElem hlt,hy⟩
 have hw1:w64 (o.gone-1)=o.gone-1:=Zc (by omega)
 have hend:o.gone<o.way.length→∃ t s e,getI o.way o.gone=some t∧Zg n t=some s∧Ze n t=some e:=by
  intro h1
  obtain ⟨t,y,ht,hy⟩:=hat o.gone hg.1 h1
  obtain ⟨s,hs⟩:=ZeB hy
  obtain ⟨e,he⟩:=ZdF hy
  exact ⟨t,s,e,ht,hs,he⟩
 unfold Zl
 rw [hw1]
 by_cases h0:0<o.gone
 ·rw [decide_eq_true h0,cond_true]
  obtain ⟨t,y,ht,hy⟩:=hat (o.gone-1) (by omega) (by omega)
  obtain ⟨e,he⟩:=ZdF hy
  simp only [ht,hy,he,Option.bind_some]
  cases decide (now<e) with
  | true=>exact ⟨_,rfl⟩
  | false=>
   simp only [cond_false]
   by_cases h1:o.gone<o.way.length
   ·obtain ⟨t2,s2,e2,ht2,hs2,he2⟩:=hend h1
    simp only [ht2,hs2,he2,Option.bind_some]
    cases decide (o.state=1) <;> cases decide (o.state=2) <;> cases decide (o.state=3) <;> cases decide (o.place=y.to_) <;> cases decide (y.to_=o.to_) <;> cases decide (o.ended=0) <;> cases decide (o.gone=(o.way.length:Int)) <;> cases decide (o.place=⟨#[]⟩) <;> cases decide (o.gone<(o.way.length:Int)) <;> cases decide (s2≤now) <;> cases decide (o.place=o.to_) <;> exact ⟨_,rfl⟩
   ·rw [decide_eq_true (show o.gone=(o.way.length:Int) by omega),decide_eq_false h1]
    cases decide (o.state=1) <;> cases decide (o.state=2) <;> cases decide (o.state=3) <;> cases decide (o.place=y.to_) <;> cases decide (y.to_=o.to_) <;> cases decide (o.ended=0) <;> cases decide (o.place=⟨#[]⟩) <;> cases decide (o.place=o.to_) <;> exact ⟨_,rfl⟩
 ·rw [decide_eq_false h0,cond_false]
  by_cases h1:o.gone<o.way.length
  ·obtain ⟨t2,s2,e2,ht2,hs2,he2⟩:=hend h1
   simp only [ht2,hs2,he2,Option.bind_some]
   cases decide (o.state=1) <;> cases decide (o.state=2) <;> cases decide (o.state=3) <;> cases decide (o.place=o.from_) <;> cases decide (o.from_=o.to_) <;> cases decide (o.ended=0) <;> cases decide (o.gone=(o.way.length:Int)) <;> cases decide (o.place=⟨#[]⟩) <;> cases decide (o.gone<(o.way.length:Int)) <;> cases decide (s2≤now) <;> cases decide (o.place=o.to_) <;> exact ⟨_,rfl⟩
  ·rw [decide_eq_true (show o.gone=(o.way.length:Int) by omega),decide_eq_false h1]
   cases decide (o.state=1) <;> cases decide (o.state=2) <;> cases decide (o.state=3) <;> cases decide (o.place=o.from_) <;> cases decide (o.from_=o.to_) <;> cases decide (o.ended=0) <;> cases decide (o.place=⟨#[]⟩) <;> cases decide (o.place=o.to_) <;> exact ⟨_,rfl⟩
theorem Zkq {w:YWorld} (hc:w.closed.length≤1048576) {o:YOrder} (hl:o.way.length≤1048576) {k:Int} (h0:0≤k):iterF (Zba w o) NN k=some (if (o.way.drop k.toNat).any (ZK w.closed)=true then .inr false else .inl ()):=by
 have key:∀ (ts:List YTrip) (i N:Nat),o.way.drop i=ts→ts.length<N→iterF (Zba w o) N (i:Int)=some (if ts.any (ZK w.closed)=true then .inr false else .inl ()):=by
  intro ts
  induction ts with
  | nil=>
   intro i N hd hN
   cases N with
   | zero=>omega
   | succ N=>
    have:o.way.length≤i:=by have:=congrArg List.length hd; simp at this; omega
    simp only [iterF,Zba]
    rw [decide_eq_false (show ¬ (i:Int)<o.way.length by omega)]
    rfl
  | cons t ts ih=>
   intro i N hd hN
   cases N with
   | zero=>simp at hN
   | succ N=>
    have ht:o.way[i]?=some t:=by
     have:=congrArg (fun l:List YTrip=>l[0]?) hd
     simpa using this
    have hlt:=(List.getElem?_eq_some_iff.1 ht).1
    have hd':o.way.drop (i+1)=ts:=by
     have:=congrArg (List.drop 1) hd
     simpa [List.drop_drop] using this
    have hg:getI o.way (i:Int)=some t:=by rw [Zd]; exact ht
    simp only [iterF,Zba]
    rw [decide_eq_true (show (i:Int)<o.way.length by omega),cond_true,hg]
    simp only [Option.bind_some]
    rw [Zd0,Zea hc,Zt hlt (by omega)]
    have hcd:(w.closed.any fun y=>decide (y=t))=ZK w.closed t:=rfl
    rw [hcd]
    by_cases hcl:ZK w.closed t=true
    ·simp [hcl,List.any_cons]
    ·simp only [Bool.not_eq_true] at hcl
     simp only [hcl,List.any_cons,Option.bind_some,cond_false,selim,Bool.false_or]
     exact ih (i+1) N hd' (by simp at hN; omega)
 have:=key (o.way.drop k.toNat) k.toNat NN rfl (by simp; unfold NN; omega)
 rw [show ((k.toNat:Nat):Int)=k by omega] at this
 exact this
theorem Zhm (cl:YTrip→Bool) (k:Int):∀ (ts:List YTrip) (i:Nat),allI (fun i t=>!(decide (k≤(i:Int)) && cl t)) i ts=!((ts.drop (k-i).toNat).any cl)
 | [],i=>by simp [allI]
 | t::ts,i=>by
  simp only [allI,Zhm cl k ts (i+1)]
  by_cases h:k≤(i:Int)
  ·rw [decide_eq_true h,show (k-(i:Int)).toNat=0 by omega,show (k-((i+1:Nat):Int)).toNat=0 by omega]
   simp
  ·rw [decide_eq_false h]
   obtain ⟨m,hm⟩:∃ m,(k-(i:Int)).toNat=m+1:=⟨(k-(i:Int)).toNat-1,by omega⟩
   rw [hm,show (k-((i+1:Nat):Int)).toNat=m by omega]
   simp
theorem Zgw {o:YOrder} (h:0≤o.gone∧o.gone≤o.way.length) (hl:o.way.length≤1048576):ZaO o=some (Zh o)∧0≤Zh o∧Zbq o=some (if (o.way.length:Int)<Zh o then (o.way.length:Int) else Zh o):=by
 unfold ZaO Zbq Zh
 have hw:w64 (o.gone+1)=o.gone+1:=Zc (by omega)
 simp only [hw]
 by_cases h2:o.state=2
 ·rw [decide_eq_true h2,if_pos h2]; exact ⟨rfl,by omega,rfl⟩
 ·rw [decide_eq_false h2,if_neg h2]; exact ⟨rfl,by omega,by rw [if_neg (show ¬ (o.way.length:Int)<o.gone by omega)]; rfl⟩
section
variable {w:YWorld} (hf:WFit w) (hb:Zr w.network w.bookings=true)
include hf hb
theorem Zpu {o:YOrder} (hl:o.way.length≤1048576) (i:Nat) (hi:i<1048576):iterF (ZbW w (i:Int) o) NN (o.from_,0)=some (if allI (wayC w ((i+1:Nat):Int) o) 0 o.way=true then .inl (endV w.network o) else .inr false):=by
 refine ZdH (A:=ByteArray) (fun a i=>(a,i)) _ (fun _ t=>ZaS w.network t) id (fun a j t ht=>?_) (fun a=>?_) (by unfold NN; omega) o.from_
 ·have hlt:=(List.getElem?_eq_some_iff.1 ht).1
  have hg:getI o.way (j:Int)=some t:=by rw [Zd]; exact ht
  have hj:w64 ((j:Int)+1)=((j+1:Nat):Int):=Zt hlt (by omega)
  have hi1:w64 ((i:Int)+1)=((i+1:Nat):Int):=by rw [Zc (by omega)]; omega
  unfold ZbW
  simp only [decide_eq_true (show (j:Int)<o.way.length by omega),cond_true,hg,Option.bind_some,hj,hi1,ZgF hf.net,ZoD hf.bookings]
  unfold wayC
  cases ht':Zc3 w.network t with
  | false=>simp
  | true=>
   obtain ⟨y,hy,_⟩:=ZbE hf.net ht'
   have hlt':ZaS w.network t=y.to_:=by unfold ZaS; rw [hy]; rfl
   simp only [hy,Option.bind_some,hlt',Bool.not_true,cond_false]
   cases Zct w.bookings ((i+1:Nat):Int) t o.weight with
   | false=>simp
   | true=>
    simp only [Bool.not_true,cond_false,Bool.true_and]
    by_cases h1:y.to_=o.to_
    ·by_cases h2:j+1<o.way.length
     ·simp [h1,h2,show ((j:Int)+1)<o.way.length by omega]
     ·simp [h1,h2,show ¬ ((j:Int)+1)<o.way.length by omega]
    ·simp [h1]
 ·unfold ZbW
  simp
theorem Zpt {o:YOrder} (hl:o.way.length≤1048576) (i:Nat) (hi:i<1048576) (ho:getI w.orders (i:Int)=some o) (hg0:0≤o.gone∧o.gone≤o.way.length):
 iterF (Zce w ((i+1:Nat):Int) o) NN (o.from_,0)=some (if (allI (wayC w ((i+1:Nat):Int) o) 0 o.way && !((o.way.drop (Zh o).toNat).any (ZK w.closed)))=true then .inl (endV w.network o) else .inr false):=by
 obtain ⟨c1,c2,c3⟩:=Zgw hg0 hl
 have hcl:(!((o.way.drop (Zh o).toNat).any (ZK w.closed)))=allI (fun j t=>!(decide ((if (o.way.length:Int)<Zh o then (o.way.length:Int) else Zh o)≤(j:Int)) && ZK w.closed t)) 0 o.way:=by
  rw [Zhm]
  congr 2
  split
  ·rename_i h
   rw [List.drop_eq_nil_of_le (by omega),List.drop_eq_nil_of_le (by omega)]
  ·congr 1; omega
 rw [hcl,← Zk7]
 have hnet:=(ZV hb).1
 refine ZdH (A:=ByteArray) (fun a i=>(a,i)) _ (fun _ t=>ZaS w.network t) id (fun a j t ht=>?_) (fun a=>?_) (by unfold NN; omega) o.from_
 ·have hlt:=(List.getElem?_eq_some_iff.1 ht).1
  have hg:getI o.way (j:Int)=some t:=by rw [Zd]; exact ht
  have hj:w64 ((j:Int)+1)=((j+1:Nat):Int):=Zt hlt (by omega)
  have hw1:w64 ((o.way.length:Int)-1)=(o.way.length:Int)-1:=Zc (by omega)
  have ho':getI w.orders (w64 (((i+1:Nat):Int)-1))=some o:=by rw [Zc (by omega),show ((i+1:Nat):Int)-1=(i:Int) by omega]; exact ho
  unfold Zce
  simp only [decide_eq_true (show (j:Int)<o.way.length by omega),cond_true,hg,Option.bind_some,hj,hw1,Zg8 hf.net hnet,ZgF hf.net,Zjt hf.bookings (Zid hb) ho',c3,Zea hf.closed]
  unfold wayC
  cases ht':Zc3 w.network t with
  | false=>simp
  | true=>
   obtain ⟨y,hy,_⟩:=ZbE hf.net ht'
   have hlt':ZaS w.network t=y.to_:=by unfold ZaS; rw [hy]; rfl
   simp only [hy,Option.bind_some,hlt',Bool.not_true,cond_false]
   cases Zct w.bookings ((i+1:Nat):Int) t o.weight with
   | false=>simp
   | true=>
    simp only [Bool.not_true,cond_false,Bool.true_and]
    generalize (if (o.way.length:Int)<Zh o then (o.way.length:Int) else Zh o)=k
    have hcc:ZK w.closed t=w.closed.any fun y=>decide (y=t):=rfl
    rw [hcc]
    by_cases h3:k≤(j:Int)
    ·rw [decide_eq_true h3,cond_true]
     cases w.closed.any fun y=>decide (y=t) with
     | true=>simp
     | false=>
      simp only [cond_false]
      by_cases h1:y.to_=o.to_
      ·by_cases h2:j+1<o.way.length
       ·simp [h1,h2,show (j:Int)<(o.way.length:Int)-1 by omega]
       ·simp [h1,h2,show ¬ (j:Int)<(o.way.length:Int)-1 by omega]
      ·simp [h1]
    ·rw [decide_eq_false h3,cond_false]
     by_cases h1:y.to_=o.to_
     ·by_cases h2:j+1<o.way.length
      ·simp [h1,h2,show (j:Int)<(o.way.length:Int)-1 by omega]
      ·simp [h1,h2,show ¬ (j:Int)<(o.way.length:Int)-1 by omega]
     ·simp [h1]
 ·unfold Zce
  simp
theorem Zkh {o:YOrder} (hl:o.way.length≤1048576) {i:Nat} (hg0:0≤o.gone∧o.gone≤o.way.length) (h:allI (wayC w ((i+1:Nat):Int) o) 0 o.way=true):Zl w.network o w.now=some ((Zl w.network o w.now).getD false):=by
 obtain ⟨b,hb'⟩:=Zix (n:=w.network) hg0 hl (fun t ht=>by
  obtain ⟨j,hj,rfl⟩:=List.getElem_of_mem ht
  have:=Zdr.1 h j _ (List.getElem?_eq_getElem hj)
  unfold wayC at this
  simp only [Bool.and_eq_true] at this
  obtain ⟨y,hy,_⟩:=ZbE hf.net this.1.1
  exact ⟨y,hy⟩) w.now
 rw [hb']; rfl
theorem ZmF {o:YOrder} {i:Nat} (ho:getI w.orders (i:Int)=some o):Zc1 w (i:Int)=some (Zej w i o):=by
 have hl:=hf.way o (Zg6 ho)
 have hi:i<1048576:=by have:=(List.getElem?_eq_some_iff.1 (by rw [← Zd]; exact ho)).1; have:=hf.orders; omega
 have hp:=(ZaL hf.net).2
 have hpl:=Zbk w.network
 have hll:=hf.net.legs
 unfold Zc1 Zej
 rw [ho,hp]
 simp only [Option.bind_some,ZcU,Zet (show (Za w.network).length≤4194304 by omega)]
 cases decide (idxV (Za w.network) o.from_<0) with
 | true=>rfl
 | false=>
 cases decide (idxV (Za w.network) o.to_<0) with
 | true=>rfl
 | false=>
 cases decide (o.from_=o.to_) with
 | true=>rfl
 | false=>
 simp only [cond_false,Bool.not_false,Bool.true_and]
 cases decide (1≤o.service) && decide (o.service≤3) with
 | false=>rfl
 | true=>
 cases decide (1≤o.weight) && decide (o.weight≤30000) with
 | false=>rfl
 | true=>
 cases decide (0≤o.at_) && decide (o.at_≤w.now) with
 | false=>rfl
 | true=>
 cases decide (0≤o.due) && decide (o.due≤200000) with
 | false=>rfl
 | true=>
 simp only [cond_false,Bool.not_true,Bool.true_and]
 cases hg:decide (0≤o.gone) && decide (o.gone≤(o.way.length:Int)) with
 | false=>rfl
 | true=>
 simp only [Bool.and_eq_true,decide_eq_true_iff] at hg
 obtain ⟨c1,c2,c3⟩:=Zgw hg hl
 simp only [Bool.not_true,cond_false,Bool.true_and]
 rw [Zpu hf hb hl i hi]
 cases hal:allI (wayC w ((i+1:Nat):Int) o) 0 o.way with
 | false=>rfl
 | true=>
 have hst:=Zkh hf hb hl hg hal
 obtain ⟨r,hr⟩:=Zgz hf.net hl o.from_ (endV w.network o) (w64 (o.at_+1))
 simp only [if_true,Option.bind_some,selim,hr,Option.getD_some,Bool.true_and]
 cases r with
 | false=>rfl
 | true=>
 rw [hst]
 simp only [Option.getD_some]
 cases (Zl w.network o w.now).getD false with
 | false=>rfl
 | true=>
 simp only [Bool.not_true,cond_false,Option.bind_some,c1,Zkq hf.closed hl c2,Bool.true_and]
 cases (o.way.drop (Zh o).toNat).any (ZK w.closed) <;> rfl
theorem Zmk {o:YOrder} {i:Nat} (ho:getI w.orders (i:Int)=some o):Zdj w ((i+1:Nat):Int) (Za w.network)=some (Zej w i o):=by
 have hl:=hf.way o (Zg6 ho)
 have hi:i<1048576:=by have:=(List.getElem?_eq_some_iff.1 (by rw [← Zd]; exact ho)).1; have:=hf.orders; omega
 have hpl:=Zbk w.network
 have hll:=hf.net.legs
 have ho':getI w.orders (w64 (((i+1:Nat):Int)-1))=some o:=by rw [Zc (by omega),show ((i+1:Nat):Int)-1=(i:Int) by omega]; exact ho
 unfold Zdj Zej
 rw [ho',ZdU,Zdd]
 simp only [Option.bind_some,ZcU,Zet (show (Za w.network).length≤4194304 by omega)]
 cases decide (o.from_=o.to_) with
 | true=>simp only [cond_true,Bool.not_true,Bool.and_false,Bool.false_and]
 | false=>
 cases decide (idxV (Za w.network) o.from_<0) with
 | true=>rfl
 | false=>
 cases decide (idxV (Za w.network) o.to_<0) with
 | true=>rfl
 | false=>
 simp only [cond_false,Bool.not_false,Bool.true_and]
 cases decide (1≤o.service) && decide (o.service≤3) with
 | false=>rfl
 | true=>
 cases decide (1≤o.weight) && decide (o.weight≤30000) with
 | false=>rfl
 | true=>
 cases decide (0≤o.at_) && decide (o.at_≤w.now) with
 | false=>rfl
 | true=>
 cases decide (0≤o.due) && decide (o.due≤200000) with
 | false=>rfl
 | true=>
 simp only [cond_false,Bool.not_true,Bool.true_and]
 cases hg:decide (0≤o.gone) && decide (o.gone≤(o.way.length:Int)) with
 | false=>rfl
 | true=>
 simp only [Bool.and_eq_true,decide_eq_true_iff] at hg
 simp only [Bool.not_true,cond_false,Bool.true_and]
 rw [Zpt hf hb hl i hi ho hg]
 cases hal:allI (wayC w ((i+1:Nat):Int) o) 0 o.way with
 | false=>rfl
 | true=>
 have hst:=Zkh hf hb hl hg hal
 obtain ⟨r,hr⟩:=Zgz hf.net hl o.from_ (endV w.network o) (w64 (o.at_+1))
 simp only [Bool.true_and]
 rw [hr]
 cases (o.way.drop (Zh o).toNat).any (ZK w.closed) with
 | true=>simp
 | false=>
 simp only [Bool.not_false,if_true,Option.bind_some,selim,ZoT hf.net,hr,Option.getD_some,Bool.true_and,Zpl,Bool.and_true]
 cases r with
 | false=>rfl
 | true=>
 rw [hst]
 rfl
end
def ZfK (w:YWorld) (i:Nat) (t:YTrip):Bool:=Zc3 w.network t && !ZK (w.closed.take i) t
def ZkR (w:YWorld) (i:Nat) (s:YScan):Bool:=(Zai w.network s).getD false && !decide (w.now<s.at_)
def Zl7 (w:YWorld):Int:=w.orders.foldl (fun a o=>w64 (a+(o.way.length:Int))) 0
def Zek (w:YWorld):Bool:=
 Zr w.network w.bookings && (decide (0≤w.now) && decide (w.now≤100000)) && !decide (30<(w.orders.length:Int)) && !decide (20<(w.closed.length:Int)) && !decide (200<(w.scans.length:Int)) && !decide (50<(w.skip.length:Int)) && (decide ((w.scans.length:Int)≤w.made) && decide (w.made≤1000000000)) &&
  allI (ZfK w) 0 w.closed && allI (ZkR w) 0 w.scans && allI (Zej w) 0 w.orders && decide (Zl7 w=(w.bookings.length:Int))
theorem Zkc {α:Type} (xs:List α) (i:Nat):subL xs 0 (i:Int)=xs.take i:=by simp [subL]
section
variable {w:YWorld} (hf:WFit w) (hb:Zr w.network w.bookings=true)
include hf
theorem Zp1 (s:YScan):Zai w.network s=some ((Zai w.network s).getD false):=by
 obtain ⟨b,h⟩:=Zky hf.net s
 rw [h]; rfl
theorem Zkr:iterF (Zcn w) NN 0=some (if allI (ZfK w) 0 w.closed=true then .inl () else .inr false):=by
 refine ZdH (A:=Unit) (fun _ i=>i) _ (fun a _=>a) id (fun a i t ht=>?_) (fun a=>?_) (by have:=hf.closed; unfold NN; omega) ()
 ·have hlt:=(List.getElem?_eq_some_iff.1 ht).1
  have hcl:=hf.closed
  have hg:getI w.closed (i:Int)=some t:=by rw [Zd]; exact ht
  have hi:w64 ((i:Int)+1)=((i+1:Nat):Int):=Zt hlt (by omega)
  have hs:chk (slOk 0 (i:Int) w.closed.length)=some ():=Zfw (by unfold slOk; rw [decide_eq_true_iff]; omega)
  unfold Zcn
  simp only [decide_eq_true (show (i:Int)<w.closed.length by omega),cond_true,hg,Option.bind_some,hi,hs,ZgF hf.net,Zkc,Zd0,Zea (show (w.closed.take i).length≤1048576 by simp; omega)]
  unfold ZfK
  have hcd:((w.closed.take i).any fun y=>decide (y=t))=ZK (w.closed.take i) t:=rfl
  rw [hcd]
  cases Zc3 w.network t <;> cases ZK (w.closed.take i) t <;> rfl
 ·unfold Zcn
  simp
theorem Zkp (hb:Zr w.network w.bookings=true):iterF (Zb8 w) NN 0=some (if allI (ZfK w) 0 w.closed=true then .inl () else .inr false):=by
 have hnet:=(ZV hb).1
 refine ZdH (A:=Unit) (fun _ i=>i) _ (fun a _=>a) id (fun a i t ht=>?_) (fun a=>?_) (by have:=hf.closed; unfold NN; omega) ()
 ·have hlt:=(List.getElem?_eq_some_iff.1 ht).1
  have hcl:=hf.closed
  have hg:getI w.closed (i:Int)=some t:=by rw [Zd]; exact ht
  have hi:w64 ((i:Int)+1)=((i+1:Nat):Int):=Zt hlt (by omega)
  have hs:chk (slOk 0 (i:Int) w.closed.length)=some ():=Zfw (by unfold slOk; rw [decide_eq_true_iff]; omega)
  unfold Zb8
  simp only [decide_eq_true (show (i:Int)<w.closed.length by omega),cond_true,hg,Option.bind_some,hi,hs,Zg8 hf.net hnet,ZgF hf.net,Zkc,Zea (show (w.closed.take i).length≤1048576 by simp; omega)]
  unfold ZfK
  have hcd:((w.closed.take i).any fun y=>decide (y=t))=ZK (w.closed.take i) t:=rfl
  rw [hcd]
  cases Zc3 w.network t <;> cases ZK (w.closed.take i) t <;> rfl
 ·unfold Zb8
  simp
theorem ZmE:iterF (Zco w) NN 0=some (if allI (ZkR w) 0 w.scans=true then .inl () else .inr false):=by
 refine ZdH (A:=Unit) (fun _ i=>i) _ (fun a _=>a) id (fun a i s hs=>?_) (fun a=>?_) (by have:=hf.scans; unfold NN; omega) ()
 ·have hlt:=(List.getElem?_eq_some_iff.1 hs).1
  have hcl:=hf.scans
  have hg:getI w.scans (i:Int)=some s:=by rw [Zd]; exact hs
  have hi:w64 ((i:Int)+1)=((i+1:Nat):Int):=Zt hlt (by omega)
  unfold Zco
  rw [decide_eq_true (show (i:Int)<w.scans.length by omega),cond_true,hg]
  simp only [Option.bind_some]
  rw [Zp1 hf s]
  simp only [Option.bind_some,hi]
  unfold ZkR
  cases (Zai w.network s).getD false <;> cases decide (w.now<s.at_) <;> rfl
 ·unfold Zco
  simp
theorem ZmD:iterF (Zb9 w) NN 0=some (if allI (ZkR w) 0 w.scans=true then .inl () else .inr false):=by
 refine ZdH (A:=Unit) (fun _ i=>i) _ (fun a _=>a) id (fun a i s hs=>?_) (fun a=>?_) (by have:=hf.scans; unfold NN; omega) ()
 ·have hlt:=(List.getElem?_eq_some_iff.1 hs).1
  have hcl:=hf.scans
  have hg:getI w.scans (i:Int)=some s:=by rw [Zd]; exact hs
  have hi:w64 ((i:Int)+1)=((i+1:Nat):Int):=Zt hlt (by omega)
  unfold Zb9
  rw [decide_eq_true (show (i:Int)<w.scans.length by omega),cond_true,hg]
  simp only [Option.bind_some]
  rw [ZnA hf.net,Zp1 hf s]
  simp only [Option.bind_some,hi]
  unfold ZkR
  cases (Zai w.network s).getD false <;> cases decide (w.now<s.at_) <;> rfl
 ·unfold Zb9
  simp
include hb
theorem ZkJ:iterF (Zcp w) NN (0,0)=some (if allI (Zej w) 0 w.orders=true then .inl (Zl7 w) else .inr false):=by
 refine ZdH (A:=Int) (fun a i=>(a,i)) _ (fun a (o:YOrder)=>w64 (a+(o.way.length:Int))) id (fun a i o ho=>?_) (fun a=>?_) (by have:=hf.orders; unfold NN; omega) 0
 ·have hlt:=(List.getElem?_eq_some_iff.1 ho).1
  have hcl:=hf.orders
  have hg:getI w.orders (i:Int)=some o:=by rw [Zd]; exact ho
  have hi:w64 ((i:Int)+1)=((i+1:Nat):Int):=Zt hlt (by omega)
  unfold Zcp
  simp only [decide_eq_true (show (i:Int)<w.orders.length by omega),cond_true,hg,Option.bind_some,hi,ZmF hf hb hg]
  cases Zej w i o <;> rfl
 ·unfold Zcp
  simp
theorem ZkI:iterF (Zca w (Za w.network)) NN (0,0)=some (if allI (Zej w) 0 w.orders=true then .inl (Zl7 w) else .inr false):=by
 refine ZdH (A:=Int) (fun a i=>(a,i)) _ (fun a (o:YOrder)=>w64 (a+(o.way.length:Int))) id (fun a i o ho=>?_) (fun a=>?_) (by have:=hf.orders; unfold NN; omega) 0
 ·have hlt:=(List.getElem?_eq_some_iff.1 ho).1
  have hcl:=hf.orders
  have hg:getI w.orders (i:Int)=some o:=by rw [Zd]; exact ho
  have hi:w64 ((i:Int)+1)=((i+1:Nat):Int):=Zt hlt (by omega)
  unfold Zca
  simp only [decide_eq_true (show (i:Int)<w.orders.length by omega),cond_true,hg,Option.bind_some,hi,Zmk hf hb hg]
  cases Zej w i o <;> rfl
 ·unfold Zca
  simp
end
theorem ZgA {γ:Type} {b:Bool} {x:γ} {K:γ→Option Bool} {r:Bool} (h:b=true→K x=some r) (h':b=false→r=false):(some (if b=true then (Sum.inl x:γ ⊕ Bool) else .inr false)).bind (selim K (fun r=>some r))=some r:=by
 cases b with
 | true=>exact h rfl
 | false=>rw [h' rfl]; rfl
theorem Ziw {w:YWorld} (hf:WFit w):Zdq w=some (Zek w):=by
 unfold Zdq Zek
 rw [Zb2 hf.net hf.bookings]
 simp only [Option.bind_some,ZcU]
 cases hb:Zr w.network w.bookings with
 | false=>rfl
 | true=>
 cases decide (0≤w.now) && decide (w.now≤100000) with
 | false=>rfl
 | true=>
 cases decide (30<(w.orders.length:Int)) with
 | true=>rfl
 | false=>
 cases decide (20<(w.closed.length:Int)) with
 | true=>rfl
 | false=>
 cases decide (200<(w.scans.length:Int)) with
 | true=>rfl
 | false=>
 cases decide (50<(w.skip.length:Int)) with
 | true=>rfl
 | false=>
 cases decide ((w.scans.length:Int)≤w.made) && decide (w.made≤1000000000) with
 | false=>rfl
 | true=>
 simp only [Bool.not_true,Bool.not_false,cond_false,Bool.true_and]
 rw [Zkr hf,ZmE hf,ZkJ hf hb]
 refine ZgA (fun h1=>?_) (fun h1=>by rw [h1]; rfl)
 refine ZgA (fun h2=>?_) (fun h2=>by rw [h1,h2]; rfl)
 refine ZgA (fun h3=>?_) (fun h3=>by rw [h1,h2,h3]; rfl)
 rw [h1,h2,h3]; rfl
theorem Ziq {w:YWorld} (hf:WFit w):Zdi w=some (Zek w):=by
 unfold Zdi Zek
 rw [ZfM hf.net hf.bookings,ZdU]
 simp only [Option.bind_some,ZcU]
 cases hb:Zr w.network w.bookings with
 | false=>rfl
 | true=>
 cases decide (0≤w.now) && decide (w.now≤100000) with
 | false=>rfl
 | true=>
 cases decide (30<(w.orders.length:Int)) with
 | true=>rfl
 | false=>
 cases decide (20<(w.closed.length:Int)) with
 | true=>rfl
 | false=>
 cases decide (200<(w.scans.length:Int)) with
 | true=>rfl
 | false=>
 cases decide (50<(w.skip.length:Int)) with
 | true=>rfl
 | false=>
 cases decide ((w.scans.length:Int)≤w.made) && decide (w.made≤1000000000) with
 | false=>rfl
 | true=>
 simp only [Bool.not_true,Bool.not_false,cond_false,Bool.true_and]
 rw [Zkp hf hb,ZmD hf,ZhA hf.net]
 simp only [Option.bind_some]
 rw [ZkI hf hb]
 refine ZgA (fun h1=>?_) (fun h1=>by rw [h1]; rfl)
 refine ZgA (fun h2=>?_) (fun h2=>by rw [h1,h2]; rfl)
 refine ZgA (fun h3=>?_) (fun h3=>by rw [h1,h2,h3]; rfl)
 rw [h1,h2,h3]; rfl
theorem Zh2 {w:YWorld} (h:Zek w=true) {i:Nat} {o:YOrder} (ho:w.orders[i]?=some o):Zej w i o=true:=by
 unfold Zek at h
 simp only [Bool.and_eq_true] at h
 have:=Zdr.1 h.1.2 i o ho
 rwa [Nat.zero_add] at this
theorem Zh1 {w:YWorld} (h:Zek w=true):Zr w.network w.bookings=true:=by
 unfold Zek at h
 simp only [Bool.and_eq_true] at h
 exact h.1.1.1.1.1.1.1.1.1.1
theorem ZnN {n:YNetwork} (h:totNetwork n≤1048576):ZZ n:=by
 unfold totNetwork at h
 refine ⟨by have:=Zbd totLeg n.legs; omega,by omega,fun l hl=>?_⟩
 have h2:totLeg l=l.from_.size+l.to_.size:=rfl
 have:=Ze3 totLeg hl
 unfold ZjF B60
 omega
theorem Zk5 {w:YWorld} (h:totWorld w≤1048576):WFit w:=by
 unfold totWorld at h
 have h1:=Zbd totOrder w.orders
 have h2:=Zbd totScan w.scans
 refine ⟨ZnN (by omega),by omega,by omega,by omega,by omega,by omega,fun o ho=>?_⟩
 have h3:totOrder o=o.from_.size+o.to_.size+o.way.length+o.place.size:=rfl
 have:=Ze3 totOrder ho
 omega
end Go.Proofs.YtmcdjilbkmhfoaaGreat
