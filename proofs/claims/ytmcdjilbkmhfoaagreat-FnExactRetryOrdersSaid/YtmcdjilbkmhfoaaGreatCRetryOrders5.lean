/- A part of the proof of the statement in the last file of this claim: texts on the language of the program and on its functions. No condition. -/
import Derived.Test.YtmcdjilbkmhfoaaGreatCRetryOrders4
import Derived.Test.YtmcdjilbkmhfoaaGreatProg
import Derived.Laws.BytesArg
import Derived.Lib.Hide
set_option linter.unusedVariables false
set_option linter.unusedSimpArgs false
namespace Go.Proofs.YtmcdjilbkmhfoaaGreat
set_option maxRecDepth 10000
open Go.RowKit
set_option linter.unusedVariables false
set_option linter.unusedSimpArgs false
def digs:Nat→Nat→ByteArray→ByteArray
 | 0,_,s=>s
 | f+1,m,s=>if 0<m then digs f (m / 10) (strOfNums [48+(m:Int) % 10]++s) else s
def ZaK (k:Int):ByteArray:=⟨#[109]⟩++digs k.toNat k.toNat ⟨#[]⟩
def Zi (k:Int):Option ByteArray:=if 1≤k∧k≤1099511627776 then some (ZaK k) else none
theorem Zd7 (k:Int) (w:World) (h0:1≤k) (h1:k≤1099511627776):Calls Tryz.prog 176 #[.int .i64 k] w fun e w'=>e=.returned (.string (ZaK k))∧Up w w':=by
 go_enter Tryz.func176,Tryz.ntmps176
 have hk:¬ k≤0:=by omega
 go_wp2
 go_loopw [3,0] (fun out kk wr=>∃ (m f:Nat) (s:ByteArray),kk=.int .i64 m∧out=.string s∧s.size+m≤1099511627777∧m≤f∧digs f m s=digs k.toNat k.toNat ⟨#[]⟩∧Up w wr) (fun _ kk _=>(intOf kk).toNat)
 case atStart=>exact ⟨k.toNat,k.toNat,⟨#[]⟩,by congr 1; omega,rfl,by show (0:Nat)+k.toNat≤_; omega,Nat.le_refl _,rfl,by (repeat (first | exact Up.rfl' _ | (refine Up.al _ ?_) | (refine Up.dr _ ?_) | (refine Up.dr1 ?_) | (refine Up.sc ?_ (by first | exact Nat.le_refl _ | (simp; done) | omega) _) | (refine Up.step (by assumption) ?_)))⟩
 case round=>
  obtain ⟨m,f,s,rfl,rfl,hm,hmf,hd,hb⟩:=hrel
  by_cases hlt:0<m
  ·obtain ⟨f,rfl⟩:∃ f',f=f'+1:=⟨f-1,by omega⟩
   have hd':digs f (m / 10) (strOfNums [48+(m:Int) % 10]++s)=digs k.toNat k.toNat ⟨#[]⟩:=by rw [← hd]; simp only [digs,hlt,if_true]
   have hcv:=run_convert_bytes_arg (P:=Tryz.prog) (wr.alloc (.cells #[.int .u8 (48+(m:Int) % 10)] 5)) 47 5 Tryz.underlying47 Tryz.underlying5 wr.heap.size 0 1 1 [48+(m:Int) % 10] rfl (fun i hi=>(by obtain rfl:i=0:=(by omega); simp [go_sem])) 9 Tryz.underlying9
   have hsz:(strOfNums [48+(m:Int) % 10]).size=1:=by simp [strOfNums,ByteArray.size]
   go_wp2
   exact ⟨⟨m / 10,f,_,by congr 1,rfl,by rw [ByteArray.size_append,hsz]; omega,by omega,hd',by (repeat (first | exact Up.rfl' _ | (refine Up.al _ ?_) | (refine Up.dr _ ?_) | (refine Up.dr1 ?_) | (refine Up.sc ?_ (by first | exact Nat.le_refl _ | (simp; done) | omega) _) | (refine Up.step (by assumption) ?_)))⟩,by simp [intOf]; omega⟩
  ·obtain rfl:m=0:=by omega
   go_wp2
   go_ret
   have hd':s=digs k.toNat k.toNat ⟨#[]⟩:=by rw [← hd]; cases f <;> simp [digs]
   exact ⟨by rw [hd']; rfl,hb⟩
theorem Zru {w:World} {E:Env} {x y:Value} (h:Rep w E (.v x) y):y=x:=by
 cases h with
 | c h=>cases h with
  | v _ _=>rfl
theorem ZgR (k:Int) {r:ByteArray} (H:Zi k=some r):CallM Tryz.prog 176 [vi k] [] (vs r) []:=by
 unfold Zi at H
 split at H
 case isFalse=>cases H
 rename_i hok
 obtain rfl:=Option.some.inj H
 intro S β w vs ω hk hl ha
 obtain ⟨x,hx0,hr⟩:=ha 0 _ rfl
 have hv:vs=#[x]:=by
  have h1:vs.size=1:=hl
  apply Array.ext (by simp [h1])
  intro i h2 h3
  have:i=0:=by omega
  subst this
  have:=(Array.getElem?_eq_some_iff.1 hx0).2
  simpa using this
 subst hv
 obtain rfl:=Zru hr
 refine (Zd7 k w hok.1 hok.2).mono ?_
 rintro e w' ⟨rfl,hu⟩
 have hnone:∀ l B,β l=some B→False:=fun l B hB=>by
  obtain ⟨mb,hmb⟩:=hk.dom l B hB
  simp at hmb
 exact ⟨_,E1 S β 0,rfl,⟨⟨hu.os,hu.tape,hu.output,hu.size,fun b hb _=>hu.block b hb⟩,fun b hb=>Nat.lt_of_lt_of_le (hk.sz b hb) hu.size,fun l B hB=>(hnone l B hB).elim,fun l l' B B' hB=>(hnone l B hB).elim,fun l hl=>hk.used l hl,fun l B hB=>(hnone l B hB).elim,fun l mb h=>(by simp at h),fun l B hB=>(hnone l B hB).elim,hk.tab,fun _ _ h=>h.elim⟩,fun b h=>h,fun b h=>.inl h,⟨fun l B hl=>absurd hl (Nat.not_lt_zero l),fun _ _ h=>h.elim⟩,.c (.v _ rfl)⟩
instance (k:Int):CT Tryz.prog (Zi k):=⟨176,[vi k],[],fun r=>vs r,fun r=>[],ZgR k⟩
set_option maxRecDepth 4000
theorem Zlm {ρ:Nat→Option Nat} {m m':Mem} {f:FuncId} {cs ds:List PV} (h:cutL ρ m m' cs ds):CutC ρ m m' (.fn f cs) (.fn f ds):=by
 have key:∀ (cs ds:List PV),cutL ρ m m' cs ds→ds.length=cs.length∧∀ (j:Nat) (p r:PV),cs[j]?=some p→ds[j]?=some r→CutC ρ m m' p r:=by
  intro cs
  induction cs with
  | nil=>intro ds h; cases ds with
   | nil=>exact ⟨rfl,by simp⟩
   | cons d ds=>exact h.elim
  | cons c cs ih=>intro ds h; cases ds with
   | nil=>exact h.elim
   | cons d ds=>
    obtain ⟨h1,h2⟩:=h
    obtain ⟨k1,k2⟩:=ih ds h2
    refine ⟨by simp [k1],fun j p r hp hr=>?_⟩
    cases j with
    | zero=>simp at hp hr; subst hp hr; exact h1
    | succ j=>simp at hp hr; exact k2 j p r hp hr
 obtain ⟨a,b⟩:=key cs ds h
 exact .fn f cs ds a b
theorem ZiJ {α:Type} {xs:List α} {n:Nat} {y:α} {c:α→List PV} (h:getI xs (n:Int)=some y):(xs.map c)[n]?=some (c y):=by
 unfold getI at h
 rw [if_pos (Int.natCast_nonneg n),Int.toNat_natCast] at h
 rw [List.getElem?_map,h]; rfl
theorem lit3 {a b c i y:Int} (h:getI [a,b,c] i=some y):([[PV.v (.int .i64 a)],[PV.v (.int .i64 b)],[PV.v (.int .i64 c)]]:List (List PV))[i.toNat]?=some [PV.v (.int .i64 y)]:=by
 have:([[PV.v (.int .i64 a)],[PV.v (.int .i64 b)],[PV.v (.int .i64 c)]]:List (List PV))=[a,b,c].map cInt:=rfl
 rw [this]; exact ZfA h
theorem ZoX {a b c y:ByteArray} {i:Int} (h:getI [a,b,c] i=some y):([[PV.v (.string a)],[PV.v (.string b)],[PV.v (.string c)]]:List (List PV))[i.toNat]?=some [PV.v (.string y)]:=by
 have:([[PV.v (.string a)],[PV.v (.string b)],[PV.v (.string c)]]:List (List PV))=[a,b,c].map cStr:=rfl
 rw [this]; exact ZfA h
theorem ZnV {P:Program} {io:Bool} {wd ν:Nat} {f:FuncId} {cs ps:List PV} {m:Mem} {K:PV→Mem→Prop} (h1:∀ c∈cs,isR c=true) (h2:isFn P f) (h3:pCall P io wd ν f (ps++cs) m K):pDyn P io wd ν (.fn f cs) ps m K:=⟨h1,h2,h3⟩
def Zjd (x:List Int):List PV:=[.sl (x.map cInt)]
instance:Zbe (List Int):=⟨Zjd⟩
instance:PlainC Zjd:=⟨fun x q h=>by simp only [Zjd,List.mem_singleton] at h; subst h; rfl⟩
attribute [go_sem] Zjd
theorem xc {p:Prop} (h:p:=by (try simp only [U_s,U_z]); (with_reducible refine cutS ?_); (first | (with_reducible apply ZpD) | (with_reducible apply ZpE) | (with_reducible apply ZpF) | (with_reducible apply ZpG) | (with_reducible apply ZpH) | (with_reducible apply ZpI) | (with_reducible apply ZpJ) | (with_reducible apply ZpK) | (with_reducible apply ZpL) | (with_reducible apply ZpM) | (with_reducible apply Zm9) | (with_reducible apply Zna) | (with_reducible apply Znb)); (repeat' (first       | (with_reducible exact ZpU) | (with_reducible refine ZpV ?_) | (with_reducible refine ZpW ?_) | (with_reducible refine cutT_un ?_)       | (with_reducible refine cutT_c ?_ ?_)       | (with_reducible exact cutT_nil)       | (with_reducible exact cutV_c rfl)       | exact cutV_c rfl       | (with_reducible exact cutL_nil)       | (with_reducible refine cutL_c ?_ ?_)       | exact .c _ rfl       | exact .un _       | exact cutC_ms rfl rfl       | exact cutC_be rfl rfl       | exact Zhn | exact cutC_nilsl       | exact cutC_nilms rfl rfl       | (refine cutC_fms rfl ?_) | (refine Zjm rfl rfl ?_) | (refine Zln rfl rfl rfl ?_)       | (refine cutC_fbe rfl rfl ?_)       | (with_reducible refine Zlm ?_) | (with_reducible refine cutV_ag ?_)       | (with_reducible refine cutV_tu ?_)       | (with_reducible exact cutAs_nil)       | (with_reducible refine cutAs_c ?_ ?_)       | (with_reducible refine cutA_ag ?_)       | (with_reducible refine cutA_k ?_)       | (with_reducible refine cutV_k ?_)       | (with_reducible exact rowsOk_nil)       | (refine rowsOk_live rfl ?_ ?_)       | (refine ZhS rfl ?_) | (refine rowsOk_new rfl ?_)       | (with_reducible refine rowsOk_dead ?_)       | (with_reducible refine cutB_one ?_)       | (with_reducible exact Zlj)       | (with_reducible refine Zll ?_)       | (with_reducible exact ZpC)       | (with_reducible refine ZpB ?_ ?_)       | (with_reducible exact cutB_same)       | (with_reducible refine Zg3 ?_)       | exact cutB_same       | (refine Zg3 ?_)       | (refine Zlk ?_)       | (refine Zjl ?_)       | (refine Zjk rfl ?_)       | (refine Zik rfl rfl rfl rfl ?_)       | (refine Zjj ?_ rfl rfl rfl rfl ?_)       | (simp only [cInt,cStr,cBool,cB8,Zii,cLabel,cParcel,cZone,cRate,cLeg,cNetwork,cTrip,cBooking,cScan,cOrder,cWorld,cLine,cAct,cOffice,cItem,cChute,cInlet,cCentre,cThing,cBelief])       | (with_unfolding_all rfl))); (all_goals first | (exact dropped_of rfl) | exact none); (first | done | fail)):p:=h
theorem xf {p:Prop} (h:p:=by (first | exact Zjw | (repeat (first | exact Zfz | exact Zgy | exact hm_e | (refine hm_c Zfz ?_) | (refine hm_c Zgy ?_) | (refine hm_c hm_e ?_) | exact Zbz (by simp [goodC,isR]) | (refine Zhz ?_) | (refine hm_c (Zbz (by simp [goodC,isR])) ?_)))); (first | done | fail)):p:=h
theorem xs {p:Prop} (h:p:=by ((refine CallM.weak (CT.ok hy) ?_); (repeat' (first | exact SubA.n | (refine SubA.c ?_ ?_) | exact SubV.c (SubC.r _) | (refine SubV.ag ?_) | exact SubL.n | (refine SubL.c ?_ ?_) | exact SubC.r _ | exact SubC.nil _ | exact SubC.un _))); (first | done | fail)):p:=h
theorem wk3 {p:Prop} (h:p:=by
 (simp only [List.length_cons,List.length_nil,Nat.reduceAdd,Nat.reduceSub,List.replicate_succ,List.replicate_zero,List.cons_append,List.nil_append,go_sem]);
 repeat' (first
  | ((with_reducible refine ZnV ?_ ?_ ?_); (focus (simp [isR])); (focus (simp only [go_sem])); (simp only [List.cons_append,List.nil_append]))
  | ((with_reducible refine ZlU H rfl (by kernel_rfl) ?_); (clear H; intro H; simp only [go_sem,Nat.reduceAdd,Nat.reduceSub,Nat.reduceMul,Nat.reduceLT,Nat.reduceLeDiff,Nat.reduceEqDiff,if_true,eq_self]))
  | ((with_reducible refine Zrv (rhoH H) ?_); (refine Zlh H rfl rfl ?_ ?_ ?_ ?_ ?_ ?_ ?_ ?_); (focus (first | rfl | (simp only [CT.args,List.map_cons,List.map_nil,renA,renC,ren1,sig_z,sig_s,sig_n]; done))); (focus (simp [CT.args,CT.m0,goodA,goodC,lowA,lowC,low1,isR])); (focus (first | exact List.nodup_nil | decide)); (focus ((simp only [CT.m0]); (repeat' (first | exact Zfo | (refine Zfn (by rfl) ?_) | (refine Zfp (by rfl) (by rfl) (by simp [goodC,lowC,low1,isR]) ?_))))); (focus (intro y_; simp [CT.mem,CT.m0])); (focus (intro y_; (simp only [CT.mem]); (repeat (first | exact Zjw | exact Zfz | exact Zgy | (refine hm_c Zfz ?_) | (refine hm_c (Zbz (by simp [goodC,isR])) ?_) | exact Zbz (by simp [goodC,isR]) | (refine Zhz ?_))))); (focus (intro y_; (simp [CT.res,goodV,goodA,goodC,isR]))); (clear H; intro y_ hy H; simp only [CT.res,CT.mem,putIn,List.drop_succ_cons,List.drop_zero,Option.map_none,go_sem,Nat.reduceAdd,Nat.reduceSub,Nat.reduceMul,Nat.reduceLT,Nat.reduceLeDiff,Nat.reduceEqDiff,if_true,eq_self]))
  | ((with_reducible refine jnS (jnH H) ?_); (first | ((refine Zn4 H ?_ ?_ (fun K_ hL H=>?_) (fun o_ H=>?_)); (focus (decide +kernel)); (focus (decide +kernel))) | ((refine Zn3 H ?_ ?_ (fun K_ hL H=>?_) (fun o_ H=>?_)); (focus (decide +kernel)); (focus (decide +kernel)))))
  | ((with_reducible refine rhoS (rhoH H) ?_); (refine ZmW H rfl rfl rfl ?_ ?_ ?_ ?_ ?_ ?_ ?_ ?_); (focus (first | rfl | (simp only [CT.args,List.map_cons,List.map_nil,renA,renC,ren1,sig_z,sig_s,sig_n]; done))); (focus (simp [CT.args,CT.m0,goodA,goodC,lowA,lowC,low1,isR])); (focus (first | exact List.nodup_nil | decide)); (focus ((simp only [CT.m0]); (repeat' (first | exact Zfo | (refine Zfn (by rfl) ?_) | (refine Zfp (by rfl) (by rfl) (by simp [goodC,lowC,low1,isR]) ?_))))); (focus (intro y_; simp [CT.mem,CT.m0])); (focus (intro y_; (simp only [CT.mem]); (repeat (first | exact Zjw | exact Zfz | exact Zgy | (refine hm_c Zfz ?_) | (refine hm_c (Zbz (by simp [goodC,isR])) ?_) | exact Zbz (by simp [goodC,isR]) | (refine Zhz ?_))))); (focus (intro y_; (simp [CT.res,goodV,goodA,goodC,isR]))); (clear H; intro y_ hy H; simp only [CT.res,CT.mem,putIn,List.drop_succ_cons,List.drop_zero,Option.map_none,go_sem,Nat.reduceAdd,Nat.reduceSub,Nat.reduceMul,Nat.reduceLT,Nat.reduceLeDiff,Nat.reduceEqDiff,if_true,eq_self]))
  | ((with_reducible refine ZlV H ?_ ?_); (focus (exact xc)); (clear H; intro z_ H))
  | ((with_reducible refine Zn2 H ?_ ?_); (focus (exact xc)); (clear H; intro H))
  | ((with_reducible refine pwp_seq ?_); intro K_ hK)
  | ((with_reducible refine pwp_block ?_))
  | ((with_reducible refine pwp_region ?_); simp only [go_sem,Nat.reduceAdd,Nat.reduceSub,Nat.reduceMul,Nat.reduceLT,Nat.reduceLeDiff,Nat.reduceEqDiff,if_true,eq_self])
  | ((with_reducible refine pwp_skip ?_); (try simp only [thenP_normal,blockP_normal]))
  | ((with_reducible refine pwp_exit ?_); (simp only [thenP_exit,blockP_exit,thenP_normal,blockP_normal,if_true,if_false,eq_self,Nat.reduceEqDiff,Nat.one_ne_zero,Nat.zero_ne_one]); (try simp only [bexR,bsr,bsl] at H))
  | ((with_reducible refine pwp_ret ?_); (try simp only [thenP_ret,blockP_ret]))
  | ((with_reducible refine hQ _ _ ?_); (try simp only [bexR,bsr,bsl] at H); replace H:=Hret H; subst H; simp only [Fin,resP,oneP,go_sem,Nat.reduceAdd,Nat.reduceSub,Nat.reduceMul,Nat.reduceLT,Nat.reduceLeDiff,Nat.reduceEqDiff,if_true,eq_self]; exact xc)
  | ((with_reducible refine hQn _ _ ?_); (try simp only [bexR,bsr,bsl] at H); replace H:=Hret H; subst H; simp only [Fin,resP,oneP,go_sem,Nat.reduceAdd,Nat.reduceSub,Nat.reduceMul,Nat.reduceLT,Nat.reduceLeDiff,Nat.reduceEqDiff,if_true,eq_self]; exact xc)
  | ((with_reducible refine Zri ?_); (refine gate2_intro (fun hg=>Hc1k H hg ?_) (fun hg=>Hc2k H hg ?_)) <;> (clear H; intro H; simp only [go_sem,Nat.reduceAdd,Nat.reduceSub,Nat.reduceMul,Nat.reduceLT,Nat.reduceLeDiff,Nat.reduceEqDiff,if_true,eq_self]))
  | ((with_reducible refine pwp_condE ?_); simp only [evP_tmp,getD_z,getD_s,evP_bool]; (first | (with_reducible refine condP_tt ?_) | (with_reducible refine condP_ff ?_) | ((refine condP_intro (fun hg=>Hc1k H hg ?_) (fun hg=>Hc2k H hg ?_)) <;> (clear H; intro H))))
  | ((with_reducible refine idxS ?_); replace H:=Hcall H; obtain ⟨y_,hy,H⟩:=H; (with_reducible apply idx_sl hy); (focus (first | (simp only [go_sem]; done) | (simp only [go_sem]; decide))); (focus (first | rfl | (simp only [go_sem]; rfl))); simp only [go_sem,Nat.reduceAdd,Nat.reduceSub,Nat.reduceMul,Nat.reduceLT,Nat.reduceLeDiff,Nat.reduceEqDiff,if_true,eq_self])
  | ((with_reducible refine idxM ?_); replace H:=Hcall H; obtain ⟨y_,hy,H⟩:=H; (first | (refine Zns hy (by rfl) (by first | (simp only [go_sem]; done) | (simp only [go_sem]; decide)) (by first | rfl | (simp only [go_sem]; rfl)) ?_) | (refine Zlz hy (by rfl) (by first | (simp only [go_sem]; done) | (simp only [go_sem]; decide)) (by first | rfl | (simp only [go_sem]; rfl)) ?_)); simp only [go_sem,Nat.reduceAdd,Nat.reduceSub,Nat.reduceMul,Nat.reduceLT,Nat.reduceLeDiff,Nat.reduceEqDiff,if_true,eq_self])
  | ((with_reducible refine idxB ?_); replace H:=Hcall H; obtain ⟨y_,hy,H⟩:=H; (with_reducible apply idx_str hy); (focus (simp only [go_sem])); simp only [go_sem,Nat.reduceAdd,Nat.reduceSub,Nat.reduceMul,Nat.reduceLT,Nat.reduceLeDiff,Nat.reduceEqDiff,if_true,eq_self])
  | ((with_reducible refine Zq6 ?_); replace H:=Hcall H; obtain ⟨y_,hy,H⟩:=H; (first | ((with_reducible apply call_deep); (focus (exact CT.ok hy)); (focus (simp [isCA,isC,isC1])); (focus (exact Nat.le_of_ble_eq_true rfl)); (focus (exact xf)); (focus (first | exact ZoM rfl | exact ZoN rfl | exact Zlv rfl | exact Zlw rfl | exact (fun h=>(by cases h)) | (simp [CT.res,goodV,goodA,goodC,isR]))); (simp only [CT.res,CT.mem,go_sem,Nat.reduceAdd,Nat.reduceSub,Nat.reduceMul,Nat.reduceLT,Nat.reduceLeDiff,Nat.reduceEqDiff,if_true,eq_self])) | ((with_reducible apply call_deep); (focus (exact xs)); (focus (simp [isCA,isC,isC1])); (focus (exact Nat.le_of_ble_eq_true rfl)); (focus (exact xf)); (focus (first | exact ZoM rfl | exact ZoN rfl | exact Zlv rfl | exact Zlw rfl | exact (fun h=>(by cases h)) | (simp [CT.res,goodV,goodA,goodC,isR]))); (simp only [CT.res,CT.mem,go_sem,Nat.reduceAdd,Nat.reduceSub,Nat.reduceMul,Nat.reduceLT,Nat.reduceLeDiff,Nat.reduceEqDiff,if_true,eq_self])) | ((with_reducible apply call_flat); (focus (first | (simp only [snapA,ZgX,Zgl,ZgW,live_look,look_z,look_s,rowQ_map,drop_mp,take_mp,List.forall_mem_nil,true_and,and_true,if_true]; (first | exact CT.ok hy | (simp only [all_nil,all_cons,isC,isC1,true_and,and_true,if_true]; exact CT.ok hy))) | (simp only [snapA,ZgX,Zgl,ZgW,live_look,look_z,look_s,rowQ_map,drop_mp,take_mp,List.forall_mem_nil,true_and,and_true,if_true]; (first | (exact xs) | (simp only [all_nil,all_cons,isC,isC1,true_and,and_true,if_true]; (exact xs)))) | (simp only [snapA,ZgX,Zgl,ZgW,live_look,look_z,look_s,rowQ_map,drop_mp,take_mp,List.forall_mem_nil,true_and,and_true,if_true]; (exact xs)))); (focus (exact Nat.le_of_ble_eq_true rfl)); (focus (exact xf)); (focus (first | exact ZpR rfl | exact (fun _=>rfl) | (simp [CT.res,goodV,goodA,goodC,isF]))); (simp only [CT.res,CT.mem,go_sem,Nat.reduceAdd,Nat.reduceSub,Nat.reduceMul,Nat.reduceLT,Nat.reduceLeDiff,Nat.reduceEqDiff,if_true,eq_self]))))
  | ((with_reducible refine slcS ?_); replace H:=Hchk H; obtain ⟨hc,H⟩:=H; (first | ((with_reducible apply slice_sl hc); (focus rfl); (focus rfl); (focus (first | (simp only [go_sem]; done) | (simp only [go_sem]; decide))); (focus (first | rfl | (intro x_; rfl))); simp only [go_sem,Nat.reduceAdd,Nat.reduceSub,Nat.reduceMul,Nat.reduceLT,Nat.reduceLeDiff,Nat.reduceEqDiff,if_true,eq_self]) | ((refine Zj5 hc (by rfl) (by rfl) (by rfl) (by first | (simp only [go_sem]; done) | (simp only [go_sem]; decide)) (by first | rfl | (simp only [go_sem]; rfl)) ?_); simp only [go_sem,Nat.reduceAdd,Nat.reduceSub,Nat.reduceMul,Nat.reduceLT,Nat.reduceLeDiff,Nat.reduceEqDiff,if_true,eq_self]) | ((with_reducible apply slice_str hc); (focus rfl); (focus rfl); (focus (simp only [go_sem])); simp only [go_sem,Nat.reduceAdd,Nat.reduceSub,Nat.reduceMul,Nat.reduceLT,Nat.reduceLeDiff,Nat.reduceEqDiff,if_true,eq_self])))
  | ((with_reducible refine appS ?_); replace H:=Hchk H; obtain ⟨hc,H⟩:=H; (first | (refine ZmR hc (by first | (simp only [go_sem]; done) | (simp only [go_sem]; rfl)) (by first | (simp only [go_sem]; done) | (simp only [go_sem]; rfl)) (by first | (simp only [go_sem]; done) | (simp only [go_sem]; rfl)) (by first | (simp only [go_sem]; done) | (simp only [go_sem]; rfl)) (by rfl) (by first | rfl | exact ZiZ (by rfl) (by rfl) (by rfl)) rfl rfl (by intro x_; rfl) rfl ?_) | (refine ZmS hc (by first | (simp only [go_sem]; done) | (simp only [go_sem]; rfl)) (by first | (simp only [go_sem]; done) | (simp only [go_sem]; rfl)) (by first | (simp only [go_sem]; done) | (simp only [go_sem]; rfl)) (by first | (simp only [go_sem]; done) | (simp only [go_sem]; rfl)) (by first | rfl | exact ZiZ (by rfl) (by rfl) (by rfl)) rfl rfl (by intro x_; rfl) ?_) | (refine ZmQ hc rfl (by first | (simp only [go_sem]; done) | (simp only [go_sem]; rfl)) (by first | (simp only [go_sem]; done) | (simp only [go_sem]; rfl)) (by first | (simp only [go_sem]; done) | (simp only [go_sem]; rfl)) (by first | (simp only [go_sem]; done) | (simp only [go_sem]; rfl)) (by rfl) (by rfl) (by rfl) (by rfl) rfl rfl (by rfl) ?_)); simp only [go_sem,Nat.reduceAdd,Nat.reduceSub,Nat.reduceMul,Nat.reduceLT,Nat.reduceLeDiff,Nat.reduceEqDiff,if_true,eq_self])
  | ((with_reducible refine mkS ?_); replace H:=Hchk H; obtain ⟨hc,H⟩:=H; (refine ZpX hc (by first | (simp only [go_sem]; done) | (simp only [go_sem]; rfl)) (by first | (simp only [go_sem]; done) | (simp only [go_sem]; rfl)) (by first | (simp only [go_sem]; done) | (simp only [go_sem]; rfl)) (by first | (simp only [go_sem]; done) | (simp only [go_sem]; rfl)) rfl rfl ?_); simp only [go_sem,Nat.reduceAdd,Nat.reduceSub,Nat.reduceMul,Nat.reduceLT,Nat.reduceLeDiff,Nat.reduceEqDiff,if_true,eq_self])
  | ((with_reducible refine optS ?_); (first | (with_reducible refine opt_if (by decide) ?_) | (replace H:=Hchk H; obtain ⟨hc,H⟩:=H; (first | (refine opt_if hc ?_) | (refine opt_if (of_decide_eq_true hc) ?_) | (refine opt_if ⟨rfl,of_decide_eq_true hc⟩ ?_)))); simp only [go_sem,Nat.reduceAdd,Nat.reduceSub,Nat.reduceMul,Nat.reduceLT,Nat.reduceLeDiff,Nat.reduceEqDiff,if_true,eq_self])
  | ((with_reducible refine Zro ?_); (refine pwp_loopH (Hlp H) ?_ ?_); (focus (simp only [LoopE.T,LoopE.M,U_s,U_z]; exact xc)); (clear H; intro n_ s_ H K_ hL; replace H:=Hrd H; simp only [LoopE.T,LoopE.M,U_s,U_z]))
  | ((with_reducible refine pwp_draw (by kernel_rfl) ?_); simp only [go_sem,Nat.reduceAdd,Nat.reduceSub,Nat.reduceMul,Nat.reduceLT,Nat.reduceLeDiff,Nat.reduceEqDiff,if_true,eq_self])
  | ((with_reducible refine endD_intro (by kernel_rfl) ?_); (try simp only [thenP_normal,blockP_normal]))
  | ((with_reducible refine hK _ _ ?_); clear hK)
  | (clear hK; (with_reducible refine hK _ _ ?_); clear hK)
  | (clear hK; clear hK; (with_reducible refine hK _ _ ?_); clear hK)
  | (clear hK; clear hK; clear hK; (with_reducible refine hK _ _ ?_); clear hK)
  | (clear hK; clear hK; clear hK; clear hK; (with_reducible refine hK _ _ ?_); clear hK)
  | (clear hK; clear hK; clear hK; clear hK; clear hK; (with_reducible refine hK _ _ ?_); clear hK)
  | ((with_reducible refine And.intro ?_ ?_); omega)
  | (simp only [nxt_app,nxd_app,nxe_app,atM_app]; simp only [go_sem,Nat.reduceAdd,Nat.reduceSub,Nat.reduceMul,Nat.reduceLT,Nat.reduceLeDiff,Nat.reduceEqDiff,if_true,eq_self])
  | ((first | simp only [lit3 hy,Option.map_some,List.drop_zero,go_sem] | simp only [ZoX hy,Option.map_some,List.drop_zero,go_sem] | simp only [ZiJ hy,ZfA hy,ZgM hy,go_sem,Nat.reduceAdd,Nat.reduceSub,Nat.reduceMul,Nat.reduceLT,Nat.reduceLeDiff,Nat.reduceEqDiff,if_true,eq_self] | simp only [ZfA hy,ZgM hy,go_sem,Nat.reduceAdd,Nat.reduceSub,Nat.reduceMul,Nat.reduceLT,Nat.reduceLeDiff,Nat.reduceEqDiff,if_true,eq_self]))
  | ((with_reducible replace H:=HexL H); (with_reducible refine hL _ _ _ H ?_); (try simp only [LoopE.T,LoopE.M,U_s,U_z]); exact xc)
  | ((with_reducible replace H:=HexL H); clear hL; (with_reducible refine hL _ _ _ H ?_); (try simp only [LoopE.T,LoopE.M,U_s,U_z]); exact xc)
  | ((with_reducible refine jnX H hL ?_); exact xc)
  | (with_reducible exact (Zq1 H).elim)
  | ((with_reducible replace H:=rgH H); obtain ⟨y_,hy,H⟩:=H; (first | simp only [lit3 hy,Option.map_some,List.drop_zero,go_sem] | simp only [ZoX hy,Option.map_some,List.drop_zero,go_sem] | simp only [ZiJ hy,ZfA hy,ZgM hy,go_sem,Nat.reduceAdd,Nat.reduceSub,Nat.reduceMul,Nat.reduceLT,Nat.reduceLeDiff,Nat.reduceEqDiff,if_true,eq_self] | simp only [ZfA hy,ZgM hy,go_sem,Nat.reduceAdd,Nat.reduceSub,Nat.reduceMul,Nat.reduceLT,Nat.reduceLeDiff,Nat.reduceEqDiff,if_true,eq_self])))):p:=h
set_option maxHeartbeats 16000000
def Za1 (s0:Int × Int × (List Int)):Option ((Int × Int × (List Int)) ⊕ (Int × (List Int))):=
 cond (decide (s0.2.1<(s0.2.2.length:Int)))
 ((getI s0.2.2 s0.2.1).bind fun y1=>
 some (.inl ((w64 (s0.1+1)),(w64 (s0.2.1+1)),(s0.2.2.set (Int.toNat s0.2.1) s0.1))))
 (some (.inr (s0.1,s0.2.2)))
instance:LoopE (Za1):=⟨fun s0=>(.ms 0::vi s0.1::(U 3 (vi s0.2.1::(U 13 [])))),fun s0=>[some ⟨.of 3,1,s0.2.2.map cInt⟩]⟩
def ZcQ (a:List Int) (k:Int):Option (Int × (List Int)):=
 (iterF (Za1) NN (k,0,a)).bind (fun o0=>
 some (o0.1,o0.2))
instance (a:List Int) (k:Int):CT Tryz.prog (ZcQ a k):=⟨95,[.ms 0,vi k],[some ⟨.of 3,1,a.map cInt⟩],fun r=>vi r.1,fun r=>[some ⟨.of 3,1,r.2.map cInt⟩],fun H=>by replace H:=H0 H; unfold ZcQ at H; exact callM_of Tryz.func95 rfl Tryz.ntmps95 Tryz.results95 fun Q hQ hQn=>wk3⟩
def ZbQ (a:List Int) (s0:Int × Int):Option ((Int × Int) ⊕ (Int ⊕ Int)):=
 cond (decide (s0.2<(a.length:Int)))
 ((getI a s0.2).bind fun y1=>
 cond (!decide (y1=s0.1))
 (some (.inr (.inr (-1))))
 (some (.inl ((w64 (s0.1+1)),(w64 (s0.2+1))))))
 (some (.inr (.inl s0.1)))
instance (a:List Int):LoopE (ZbQ a):=⟨fun s0=>(.sl (a.map cInt)::vi s0.1::(U 3 (vi s0.2::(U 15 [])))),fun s0=>[]⟩
def ZbA (a:List Int) (k:Int):Option Int:=
 (iterF (ZbQ a) NN (k,0)).bind (selim (fun o0=>
 some o0) (fun r=>some r))
instance (a:List Int) (k:Int):CT Tryz.prog (ZbA a k):=⟨101,[.sl (a.map cInt),vi k],[],fun r=>vi r,fun r=>[],fun H=>by replace H:=H0 H; unfold ZbA at H; exact callM_of Tryz.func101 rfl Tryz.ntmps101 Tryz.results101 fun Q hQ hQn=>wk3⟩
theorem Zes {σ ο:Type} {body:σ→Option (σ ⊕ ο)} (S:Nat→σ) {n:Nat} {o:ο} (h1:∀ i,i<n→body (S i)=some (.inl (S (i+1)))) (h2:body (S n)=some (.inr o)):∀ N,n<N→iterF body N (S 0)=some o:=by
 have key:∀ d j,j+d=n→∀ N,d<N→iterF body N (S j)=some o:=by
  intro d
  induction d with
  | zero=>
   intro j hj N hN
   obtain ⟨N,rfl⟩:∃ M,N=M+1:=⟨N-1,by omega⟩
   have:j=n:=by omega
   subst this
   unfold iterF; rw [h2]; rfl
  | succ d ih=>
   intro j hj N hN
   obtain ⟨N,rfl⟩:∃ M,N=M+1:=⟨N-1,by omega⟩
   unfold iterF
   rw [h1 j (by omega)]
   exact ih (j+1) (by omega) N (by omega)
 intro N hN
 exact key n 0 (by omega) N hN
theorem Zf5 {α:Type} {xs:List α} {i:Nat} {v:α} (h:i<xs.length):getI (xs.set i v) (i:Int)=some v:=by
 rw [Zd,List.getElem?_set_self h]
theorem Zd5 {α:Type} {xs:List α} {i:Nat} (h:i<xs.length):getI xs (i:Int)=some xs[i]:=by
 rw [Zd]; exact List.getElem?_eq_getElem h
theorem Zgk {α:Type} {M a:List α} {i:Nat} {v:α} (hM:M.length=i) (hi:i<a.length):(M++a.drop i).set i v=(M++[v])++a.drop (i+1):=by
 rw [List.drop_eq_getElem_cons hi,List.set_append_right _ _ (by omega)]
 rw [show i-M.length=0 by omega,List.set_cons_zero,List.append_assoc]
 rfl
theorem Zen {k:Int} (h:1≤k∧k≤1099511627776):Zi k=some (ZaK k):=by unfold Zi; rw [if_pos h]
def mkI (k:Int) (n:Nat):List Int:=(List.range n).map fun i:Nat=>k+(i:Int)
theorem ZhK {k:Int} {n:Nat}:(mkI k n).length=n:=by simp [mkI]
theorem Zo0 {k:Int} {n:Nat}:mkI k (n+1)=mkI k n++[k+(n:Int)]:=by simp [mkI,List.range_succ]
theorem ZkB (a:List Int) (k:Int) (ha:a.length≤1048576) (h0:1≤k) (h1:k≤1000000000):ZcQ a k=some (k+a.length,mkI k a.length):=by
 unfold ZcQ
 have e0:(k,0,a)=(fun i:Nat=>((k+(i:Int),(i:Int),mkI k i++a.drop i):Int × Int × List Int)) 0:=by simp [mkI]
 have hh:iterF Za1 NN ((fun i:Nat=>(k+(i:Int),(i:Int),mkI k i++a.drop i)) 0)=some ((k+a.length,mkI k a.length)):=by
  refine Zes (fun i:Nat=>(k+(i:Int),(i:Int),mkI k i++a.drop i)) (n:=a.length) ?_ ?_ NN (by unfold NN; omega)
  ·intro i hi
   have hL:i<(mkI k i++a.drop i).length:=by simp [ZhK]; omega
   have w1:w64 (k+(i:Int)+1)=k+((i+1:Nat):Int):=by rw [Zc (by omega)]; omega
   have w2:w64 ((i:Int)+1)=((i+1:Nat):Int):=by rw [Zc (by omega)]; omega
   have d1:decide ((i:Int)<((mkI k i++a.drop i).length:Int))=true:=decide_eq_true (by omega)
   simp only [Za1,d1,cond_true,Zd5 hL,Option.bind_some,w1,w2,Int.toNat_natCast,Zgk ZhK hi,Zo0]
  ·have d1:decide ((a.length:Int)<((mkI k a.length).length:Int))=false:=decide_eq_false (by simp [ZhK])
   simp only [Za1,List.drop_length,List.append_nil,d1,cond_false]
 rw [e0,hh]
 rfl
theorem Zhw (k:Int) (n:Nat) (hn:n≤1048576) (h0:1≤k) (h1:k≤1000000000):ZbA (mkI k n) k=some (k+n):=by
 unfold ZbA
 have e0:(k,0)=(fun i:Nat=>((k+(i:Int),(i:Int)):Int × Int)) 0:=by simp
 have hh:iterF (ZbQ (mkI k n)) NN ((fun i:Nat=>(k+(i:Int),(i:Int))) 0)=some (Sum.inl (k+n)):=by
  refine Zes (fun i:Nat=>(k+(i:Int),(i:Int))) (n:=n) ?_ ?_ NN (by unfold NN; omega)
  ·intro i hi
   have hL:i<(mkI k n).length:=by rw [ZhK]; exact hi
   have w1:w64 (k+(i:Int)+1)=k+((i+1:Nat):Int):=by rw [Zc (by omega)]; omega
   have w2:w64 ((i:Int)+1)=((i+1:Nat):Int):=by rw [Zc (by omega)]; omega
   have d1:decide ((i:Int)<((mkI k n).length:Int))=true:=decide_eq_true (by omega)
   have g:(mkI k n)[i]=k+(i:Int):=by simp [mkI]
   simp only [ZbQ,d1,cond_true,Zd5 hL,Option.bind_some,w1,w2,g,decide_true,Bool.not_true,cond_false]
  ·have d1:decide ((n:Int)<((mkI k n).length:Int))=false:=decide_eq_false (by simp [ZhK])
   simp only [ZbQ,d1,cond_false]
 rw [e0,hh]
 rfl
def Za2 (s0:Int × Int × (List YLeg)):Option ((Int × Int × (List YLeg)) ⊕ (Int × (List YLeg))):=
 cond (decide (s0.2.1<(s0.2.2.length:Int)))
 ((Zi s0.1).bind fun y1=>
 (getI s0.2.2 s0.2.1).bind fun y2=>
 (Zi (w64 (s0.1+1))).bind fun y3=>
 (getI s0.2.2 s0.2.1).bind fun y4=>
 (getI s0.2.2 s0.2.1).bind fun y5=>
 (getI s0.2.2 s0.2.1).bind fun y6=>
 (getI s0.2.2 s0.2.1).bind fun y7=>
 (getI s0.2.2 s0.2.1).bind fun y8=>
 some (.inl ((w64 ((w64 ((w64 ((w64 ((w64 ((w64 (s0.1+1))+1))+1))+1))+1))+1)),(w64 (s0.2.1+1)),(s0.2.2.set (Int.toNat s0.2.1) (⟨y1,y3,(w64 ((w64 (s0.1+1))+1)),(w64 ((w64 ((w64 (s0.1+1))+1))+1)),(w64 ((w64 ((w64 ((w64 (s0.1+1))+1))+1))+1)),(w64 ((w64 ((w64 ((w64 ((w64 (s0.1+1))+1))+1))+1))+1))⟩:YLeg)))))
 (some (.inr (s0.1,s0.2.2)))
instance:LoopE (Za2):=⟨fun s0=>(.ms 0::vi s0.1::(U 3 (vi s0.2.1::(U 51 [])))),fun s0=>[some ⟨.of 67,6,s0.2.2.map cLeg⟩]⟩
def ZcR (a:List YLeg) (k:Int):Option (Int × (List YLeg)):=
 (iterF (Za2) NN (k,0,a)).bind (fun o0=>
 some (o0.1,o0.2))
instance (a:List YLeg) (k:Int):CT Tryz.prog (ZcR a k):=⟨175,[.ms 0,vi k],[some ⟨.of 67,6,a.map cLeg⟩],fun r=>vi r.1,fun r=>[some ⟨.of 67,6,r.2.map cLeg⟩],fun H=>by replace H:=H0 H; unfold ZcR at H; exact callM_of Tryz.func175 rfl Tryz.ntmps175 Tryz.results175 fun Q hQ hQn=>wk3⟩
def ZbR (a:List YLeg) (s0:Int × Int):Option ((Int × Int) ⊕ (Int ⊕ Int)):=
 cond (decide (s0.2<(a.length:Int)))
 ((getI a s0.2).bind fun y1=>
 (Zi s0.1).bind fun y2=>
 cond (!decide (y1.from_=y2))
 (some (.inr (.inr (-1))))
 ((getI a s0.2).bind fun y3=>
 (Zi (w64 (s0.1+1))).bind fun y4=>
 cond (!decide (y3.to_=y4))
 (some (.inr (.inr (-1))))
 ((getI a s0.2).bind fun y5=>
 cond (!decide (y5.start=(w64 ((w64 (s0.1+1))+1))))
 (some (.inr (.inr (-1))))
 ((getI a s0.2).bind fun y6=>
 cond (!decide (y6.takes=(w64 ((w64 ((w64 (s0.1+1))+1))+1))))
 (some (.inr (.inr (-1))))
 ((getI a s0.2).bind fun y7=>
 cond (!decide (y7.days=(w64 ((w64 ((w64 ((w64 (s0.1+1))+1))+1))+1))))
 (some (.inr (.inr (-1))))
 ((getI a s0.2).bind fun y8=>
 cond (!decide (y8.room=(w64 ((w64 ((w64 ((w64 ((w64 (s0.1+1))+1))+1))+1))+1))))
 (some (.inr (.inr (-1))))
 (some (.inl ((w64 ((w64 ((w64 ((w64 ((w64 ((w64 (s0.1+1))+1))+1))+1))+1))+1)),(w64 (s0.2+1)))))))))))
 (some (.inr (.inl s0.1)))
instance (a:List YLeg):LoopE (ZbR a):=⟨fun s0=>(.sl (a.map cLeg)::vi s0.1::(U 3 (vi s0.2::(U 63 [])))),fun s0=>[]⟩
def ZcY (a:List YLeg) (k:Int):Option Int:=
 (iterF (ZbR a) NN (k,0)).bind (selim (fun o0=>
 some o0) (fun r=>some r))
instance (a:List YLeg) (k:Int):CT Tryz.prog (ZcY a k):=⟨177,[.sl (a.map cLeg),vi k],[],fun r=>vi r,fun r=>[],fun H=>by replace H:=H0 H; unfold ZcY at H; exact callM_of Tryz.func177 rfl Tryz.ntmps177 Tryz.results177 fun Q hQ hQn=>wk3⟩
def ZaR (s0:Int × Int × (List YTrip)):Option ((Int × Int × (List YTrip)) ⊕ (Int × (List YTrip))):=
 cond (decide (s0.2.1<(s0.2.2.length:Int)))
 ((getI s0.2.2 s0.2.1).bind fun y1=>
 (getI s0.2.2 s0.2.1).bind fun y2=>
 some (.inl ((w64 ((w64 (s0.1+1))+1)),(w64 (s0.2.1+1)),(s0.2.2.set (Int.toNat s0.2.1) (⟨s0.1,(w64 (s0.1+1))⟩:YTrip)))))
 (some (.inr (s0.1,s0.2.2)))
instance:LoopE (ZaR):=⟨fun s0=>(.ms 0::vi s0.1::(U 3 (vi s0.2.1::(U 21 [])))),fun s0=>[some ⟨.of 55,2,s0.2.2.map cTrip⟩]⟩
def ZcB (a:List YTrip) (k:Int):Option (Int × (List YTrip)):=
 (iterF (ZaR) NN (k,0,a)).bind (fun o0=>
 some (o0.1,o0.2))
instance (a:List YTrip) (k:Int):CT Tryz.prog (ZcB a k):=⟨93,[.ms 0,vi k],[some ⟨.of 55,2,a.map cTrip⟩],fun r=>vi r.1,fun r=>[some ⟨.of 55,2,r.2.map cTrip⟩],fun H=>by replace H:=H0 H; unfold ZcB at H; exact callM_of Tryz.func93 rfl Tryz.ntmps93 Tryz.results93 fun Q hQ hQn=>wk3⟩
def ZbC (a:List YTrip) (s0:Int × Int):Option ((Int × Int) ⊕ (Int ⊕ Int)):=
 cond (decide (s0.2<(a.length:Int)))
 ((getI a s0.2).bind fun y1=>
 cond (!decide (y1.leg=s0.1))
 (some (.inr (.inr (-1))))
 ((getI a s0.2).bind fun y2=>
 cond (!decide (y2.day=(w64 (s0.1+1))))
 (some (.inr (.inr (-1))))
 (some (.inl ((w64 ((w64 (s0.1+1))+1)),(w64 (s0.2+1)))))))
 (some (.inr (.inl s0.1)))
instance (a:List YTrip):LoopE (ZbC a):=⟨fun s0=>(.sl (a.map cTrip)::vi s0.1::(U 3 (vi s0.2::(U 25 [])))),fun s0=>[]⟩
def Zbg (a:List YTrip) (k:Int):Option Int:=
 (iterF (ZbC a) NN (k,0)).bind (selim (fun o0=>
 some o0) (fun r=>some r))
instance (a:List YTrip) (k:Int):CT Tryz.prog (Zbg a k):=⟨99,[.sl (a.map cTrip),vi k],[],fun r=>vi r,fun r=>[],fun H=>by replace H:=H0 H; unfold Zbg at H; exact callM_of Tryz.func99 rfl Tryz.ntmps99 Tryz.results99 fun Q hQ hQn=>wk3⟩
def Zaq (s0:Int × Int × (List YBooking)):Option ((Int × Int × (List YBooking)) ⊕ (Int × (List YBooking))):=
 cond (decide (s0.2.1<(s0.2.2.length:Int)))
 ((getI s0.2.2 s0.2.1).bind fun y1=>
 (getI s0.2.2 s0.2.1).bind fun y2=>
 (getI s0.2.2 s0.2.1).bind fun y3=>
 (getI s0.2.2 s0.2.1).bind fun y4=>
 some (.inl ((w64 ((w64 ((w64 ((w64 (s0.1+1))+1))+1))+1)),(w64 (s0.2.1+1)),(s0.2.2.set (Int.toNat s0.2.1) (⟨s0.1,(⟨(w64 (s0.1+1)),(w64 ((w64 (s0.1+1))+1))⟩:YTrip),(w64 ((w64 ((w64 (s0.1+1))+1))+1))⟩:YBooking)))))
 (some (.inr (s0.1,s0.2.2)))
instance:LoopE (Zaq):=⟨fun s0=>(.ms 0::vi s0.1::(U 3 (vi s0.2.1::(U 37 [])))),fun s0=>[some ⟨.of 135,4,s0.2.2.map cBooking⟩]⟩
def ZbG (a:List YBooking) (k:Int):Option (Int × (List YBooking)):=
 (iterF (Zaq) NN (k,0,a)).bind (fun o0=>
 some (o0.1,o0.2))
instance (a:List YBooking) (k:Int):CT Tryz.prog (ZbG a k):=⟨92,[.ms 0,vi k],[some ⟨.of 135,4,a.map cBooking⟩],fun r=>vi r.1,fun r=>[some ⟨.of 135,4,r.2.map cBooking⟩],fun H=>by replace H:=H0 H; unfold ZbG at H; exact callM_of Tryz.func92 rfl Tryz.ntmps92 Tryz.results92 fun Q hQ hQn=>wk3⟩
def ZaP (a:List YBooking) (s0:Int × Int):Option ((Int × Int) ⊕ (Int ⊕ Int)):=
 cond (decide (s0.2<(a.length:Int)))
 ((getI a s0.2).bind fun y1=>
 cond (!decide (y1.thing=s0.1))
 (some (.inr (.inr (-1))))
 ((getI a s0.2).bind fun y2=>
 cond (!decide (y2.trip.leg=(w64 (s0.1+1))))
 (some (.inr (.inr (-1))))
 ((getI a s0.2).bind fun y3=>
 cond (!decide (y3.trip.day=(w64 ((w64 (s0.1+1))+1))))
 (some (.inr (.inr (-1))))
 ((getI a s0.2).bind fun y4=>
 cond (!decide (y4.weight=(w64 ((w64 ((w64 (s0.1+1))+1))+1))))
 (some (.inr (.inr (-1))))
 (some (.inl ((w64 ((w64 ((w64 ((w64 (s0.1+1))+1))+1))+1)),(w64 (s0.2+1)))))))))
 (some (.inr (.inl s0.1)))
instance (a:List YBooking):LoopE (ZaP a):=⟨fun s0=>(.sl (a.map cBooking)::vi s0.1::(U 3 (vi s0.2::(U 45 [])))),fun s0=>[]⟩
def ZaT (a:List YBooking) (k:Int):Option Int:=
 (iterF (ZaP a) NN (k,0)).bind (selim (fun o0=>
 some o0) (fun r=>some r))
instance (a:List YBooking) (k:Int):CT Tryz.prog (ZaT a k):=⟨98,[.sl (a.map cBooking),vi k],[],fun r=>vi r,fun r=>[],fun H=>by replace H:=H0 H; unfold ZaT at H; exact callM_of Tryz.func98 rfl Tryz.ntmps98 Tryz.results98 fun Q hQ hQn=>wk3⟩
def ZaQ (s0:Int × Int × (List YScan)):Option ((Int × Int × (List YScan)) ⊕ (Int × (List YScan))):=
 cond (decide (s0.2.1<(s0.2.2.length:Int)))
 ((getI s0.2.2 s0.2.1).bind fun y1=>
 (getI s0.2.2 s0.2.1).bind fun y2=>
 (getI s0.2.2 s0.2.1).bind fun y3=>
 (Zi (w64 ((w64 ((w64 (s0.1+1))+1))+1))).bind fun y4=>
 (getI s0.2.2 s0.2.1).bind fun y5=>
 (getI s0.2.2 s0.2.1).bind fun y6=>
 (getI s0.2.2 s0.2.1).bind fun y7=>
 some (.inl ((w64 ((w64 ((w64 ((w64 ((w64 ((w64 (s0.1+1))+1))+1))+1))+1))+1)),(w64 (s0.2.1+1)),(s0.2.2.set (Int.toNat s0.2.1) (⟨s0.1,(w64 (s0.1+1)),(w64 ((w64 (s0.1+1))+1)),y4,(⟨(w64 ((w64 ((w64 ((w64 (s0.1+1))+1))+1))+1)),(w64 ((w64 ((w64 ((w64 ((w64 (s0.1+1))+1))+1))+1))+1))⟩:YTrip)⟩:YScan)))))
 (some (.inr (s0.1,s0.2.2)))
instance:LoopE (ZaQ):=⟨fun s0=>(.ms 0::vi s0.1::(U 3 (vi s0.2.1::(U 52 [])))),fun s0=>[some ⟨.of 130,6,s0.2.2.map cScan⟩]⟩
def ZcA (a:List YScan) (k:Int):Option (Int × (List YScan)):=
 (iterF (ZaQ) NN (k,0,a)).bind (fun o0=>
 some (o0.1,o0.2))
instance (a:List YScan) (k:Int):CT Tryz.prog (ZcA a k):=⟨94,[.ms 0,vi k],[some ⟨.of 130,6,a.map cScan⟩],fun r=>vi r.1,fun r=>[some ⟨.of 130,6,r.2.map cScan⟩],fun H=>by replace H:=H0 H; unfold ZcA at H; exact callM_of Tryz.func94 rfl Tryz.ntmps94 Tryz.results94 fun Q hQ hQn=>wk3⟩
def ZbB (a:List YScan) (s0:Int × Int):Option ((Int × Int) ⊕ (Int ⊕ Int)):=
 cond (decide (s0.2<(a.length:Int)))
 ((getI a s0.2).bind fun y1=>
 cond (!decide (y1.thing=s0.1))
 (some (.inr (.inr (-1))))
 ((getI a s0.2).bind fun y2=>
 cond (!decide (y2.at_=(w64 (s0.1+1))))
 (some (.inr (.inr (-1))))
 ((getI a s0.2).bind fun y3=>
 cond (!decide (y3.kind=(w64 ((w64 (s0.1+1))+1))))
 (some (.inr (.inr (-1))))
 ((getI a s0.2).bind fun y4=>
 (Zi (w64 ((w64 ((w64 (s0.1+1))+1))+1))).bind fun y5=>
 cond (!decide (y4.place=y5))
 (some (.inr (.inr (-1))))
 ((getI a s0.2).bind fun y6=>
 cond (!decide (y6.trip.leg=(w64 ((w64 ((w64 ((w64 (s0.1+1))+1))+1))+1))))
 (some (.inr (.inr (-1))))
 ((getI a s0.2).bind fun y7=>
 cond (!decide (y7.trip.day=(w64 ((w64 ((w64 ((w64 ((w64 (s0.1+1))+1))+1))+1))+1))))
 (some (.inr (.inr (-1))))
 (some (.inl ((w64 ((w64 ((w64 ((w64 ((w64 ((w64 (s0.1+1))+1))+1))+1))+1))+1)),(w64 (s0.2+1)))))))))))
 (some (.inr (.inl s0.1)))
instance (a:List YScan):LoopE (ZbB a):=⟨fun s0=>(.sl (a.map cScan)::vi s0.1::(U 3 (vi s0.2::(U 64 [])))),fun s0=>[]⟩
def ZbK (a:List YScan) (k:Int):Option Int:=
 (iterF (ZbB a) NN (k,0)).bind (selim (fun o0=>
 some o0) (fun r=>some r))
instance (a:List YScan) (k:Int):CT Tryz.prog (ZbK a k):=⟨100,[.sl (a.map cScan),vi k],[],fun r=>vi r,fun r=>[],fun H=>by replace H:=H0 H; unfold ZbK at H; exact callM_of Tryz.func100 rfl Tryz.ntmps100 Tryz.results100 fun Q hQ hQn=>wk3⟩
def mLg (k:Int):YLeg:=⟨ZaK (k),ZaK (k+1),k+1+1,k+1+1+1,k+1+1+1+1,k+1+1+1+1+1⟩
def mkLg (k:Int) (n:Nat):List YLeg:=(List.range n).map fun i:Nat=>mLg (k+6*(i:Int))
theorem Zgb {k:Int} {n:Nat}:(mkLg k n).length=n:=by simp [mkLg]
theorem ZnJ {k:Int} {n:Nat}:mkLg k (n+1)=mkLg k n++[mLg (k+6*(n:Int))]:=by simp [mkLg,List.range_succ]
theorem ZkC (a:List YLeg) (k:Int) (ha:a.length≤1048576) (h0:1≤k) (h1:k≤1000000000):ZcR a k=some (k+6*a.length,mkLg k a.length):=by
 unfold ZcR
 have e0:(k,0,a)=(fun i:Nat=>((k+6*(i:Int),(i:Int),mkLg k i++a.drop i):Int × Int × List YLeg)) 0:=by simp [mkLg]
 have hh:iterF Za2 NN ((fun i:Nat=>(k+6*(i:Int),(i:Int),mkLg k i++a.drop i)) 0)=some ((k+6*a.length,mkLg k a.length)):=by
  refine Zes (fun i:Nat=>(k+6*(i:Int),(i:Int),mkLg k i++a.drop i)) (n:=a.length) ?_ ?_ NN (by unfold NN; omega)
  ·intro i hi
   have hL:i<(mkLg k i++a.drop i).length:=by simp [Zgb]; omega
   generalize hq:k+6*(i:Int)=q
   have hq0:1≤q:=by omega
   have hq1:q≤1010000000:=by omega
   have hq2:k+6*((i+1:Nat):Int)=q+1+1+1+1+1+1:=by omega
   have w1:w64 (q+1)=q+1:=Zc (by omega)
   have w2:w64 (q+1+1)=q+1+1:=Zc (by omega)
   have w3:w64 (q+1+1+1)=q+1+1+1:=Zc (by omega)
   have w4:w64 (q+1+1+1+1)=q+1+1+1+1:=Zc (by omega)
   have w5:w64 (q+1+1+1+1+1)=q+1+1+1+1+1:=Zc (by omega)
   have w6:w64 (q+1+1+1+1+1+1)=q+1+1+1+1+1+1:=Zc (by omega)
   have t0:Zi (q)=some (ZaK (q)):=Zen (by omega)
   have t1:Zi (q+1)=some (ZaK (q+1)):=Zen (by omega)
   have wi:w64 ((i:Int)+1)=((i+1:Nat):Int):=by rw [Zc (by omega)]; omega
   have d1:decide ((i:Int)<((mkLg k i++a.drop i).length:Int))=true:=decide_eq_true (by omega)
   have hs:=Zgk (v:=mLg q) Zgb (show i<a.length from hi) (M:=mkLg k i)
   rw [ZnJ,hq,hq2]
   generalize mkLg k i++a.drop i=L at *
   have gs:∀ (xs:List YLeg) (v:YLeg),i<xs.length→getI (xs.set i v) (i:Int)=some v:=fun xs v h=>Zf5 h
   simp only [Za2,d1,cond_true,t0,t1,Zd5 hL,Option.bind_some,w1,w2,w3,w4,w5,w6,wi,Int.toNat_natCast,frzL,gs,List.length_set,hL,List.set_set,← hs]
   rfl
  ·have d1:decide ((a.length:Int)<((mkLg k a.length).length:Int))=false:=decide_eq_false (by simp [Zgb])
   simp only [Za2,List.drop_length,List.append_nil,d1,cond_false]
 rw [e0,hh]
 rfl
theorem Zkw (k:Int) (n:Nat) (hn:n≤1048576) (h0:1≤k) (h1:k≤1000000000):ZcY (mkLg k n) k=some (k+6*n):=by
 unfold ZcY
 have e0:(k,0)=(fun i:Nat=>((k+6*(i:Int),(i:Int)):Int × Int)) 0:=by simp
 have hh:iterF (ZbR (mkLg k n)) NN ((fun i:Nat=>(k+6*(i:Int),(i:Int))) 0)=some (Sum.inl (k+6*n)):=by
  refine Zes (fun i:Nat=>(k+6*(i:Int),(i:Int))) (n:=n) ?_ ?_ NN (by unfold NN; omega)
  ·intro i hi
   have hL:i<(mkLg k n).length:=by rw [Zgb]; exact hi
   have g:(mkLg k n)[i]=mLg (k+6*(i:Int)):=by simp [mkLg]
   have hg:=Zd5 hL
   rw [g] at hg
   have d1:decide ((i:Int)<((mkLg k n).length:Int))=true:=decide_eq_true (by omega)
   have hq2:k+6*((i+1:Nat):Int)=k+6*(i:Int)+1+1+1+1+1+1:=by omega
   rw [hq2]
   generalize mkLg k n=L at *
   have hq0:1≤k+6*(i:Int):=by omega
   have hq1:k+6*(i:Int)≤1010000000:=by omega
   generalize k+6*(i:Int)=q at *
   have w1:w64 (q+1)=q+1:=Zc (by omega)
   have w2:w64 (q+1+1)=q+1+1:=Zc (by omega)
   have w3:w64 (q+1+1+1)=q+1+1+1:=Zc (by omega)
   have w4:w64 (q+1+1+1+1)=q+1+1+1+1:=Zc (by omega)
   have w5:w64 (q+1+1+1+1+1)=q+1+1+1+1+1:=Zc (by omega)
   have w6:w64 (q+1+1+1+1+1+1)=q+1+1+1+1+1+1:=Zc (by omega)
   have t0:Zi (q)=some (ZaK (q)):=Zen (by omega)
   have t1:Zi (q+1)=some (ZaK (q+1)):=Zen (by omega)
   have wi:w64 ((i:Int)+1)=((i+1:Nat):Int):=by rw [Zc (by omega)]; omega
   simp only [ZbR,d1,cond_true,t0,t1,hg,Option.bind_some,w1,w2,w3,w4,w5,w6,wi,mLg,decide_true,Bool.not_true,cond_false]
  ·have d1:decide ((n:Int)<((mkLg k n).length:Int))=false:=decide_eq_false (by simp [Zgb])
   simp only [ZbR,d1,cond_false]
 rw [e0,hh]
 rfl
def mTr (k:Int):YTrip:=⟨k,k+1⟩
def mkTr (k:Int) (n:Nat):List YTrip:=(List.range n).map fun i:Nat=>mTr (k+2*(i:Int))
theorem Zgd {k:Int} {n:Nat}:(mkTr k n).length=n:=by simp [mkTr]
theorem ZnL {k:Int} {n:Nat}:mkTr k (n+1)=mkTr k n++[mTr (k+2*(n:Int))]:=by simp [mkTr,List.range_succ]
theorem ZgO (a:List YTrip) (k:Int) (ha:a.length≤1048576) (h0:1≤k) (h1:k≤1000000000):ZcB a k=some (k+2*a.length,mkTr k a.length):=by
 unfold ZcB
 have e0:(k,0,a)=(fun i:Nat=>((k+2*(i:Int),(i:Int),mkTr k i++a.drop i):Int × Int × List YTrip)) 0:=by simp [mkTr]
 have hh:iterF ZaR NN ((fun i:Nat=>(k+2*(i:Int),(i:Int),mkTr k i++a.drop i)) 0)=some ((k+2*a.length,mkTr k a.length)):=by
  refine Zes (fun i:Nat=>(k+2*(i:Int),(i:Int),mkTr k i++a.drop i)) (n:=a.length) ?_ ?_ NN (by unfold NN; omega)
  ·intro i hi
   have hL:i<(mkTr k i++a.drop i).length:=by simp [Zgd]; omega
   generalize hq:k+2*(i:Int)=q
   have hq0:1≤q:=by omega
   have hq1:q≤1010000000:=by omega
   have hq2:k+2*((i+1:Nat):Int)=q+1+1:=by omega
   have w1:w64 (q+1)=q+1:=Zc (by omega)
   have w2:w64 (q+1+1)=q+1+1:=Zc (by omega)
   have wi:w64 ((i:Int)+1)=((i+1:Nat):Int):=by rw [Zc (by omega)]; omega
   have d1:decide ((i:Int)<((mkTr k i++a.drop i).length:Int))=true:=decide_eq_true (by omega)
   have hs:=Zgk (v:=mTr q) Zgd (show i<a.length from hi) (M:=mkTr k i)
   rw [ZnL,hq,hq2]
   generalize mkTr k i++a.drop i=L at *
   have gs:∀ (xs:List YTrip) (v:YTrip),i<xs.length→getI (xs.set i v) (i:Int)=some v:=fun xs v h=>Zf5 h
   simp only [ZaR,d1,cond_true,Zd5 hL,Option.bind_some,w1,w2,wi,Int.toNat_natCast,frzL,gs,List.length_set,hL,List.set_set,← hs]
   rfl
  ·have d1:decide ((a.length:Int)<((mkTr k a.length).length:Int))=false:=decide_eq_false (by simp [Zgd])
   simp only [ZaR,List.drop_length,List.append_nil,d1,cond_false]
 rw [e0,hh]
 rfl
theorem ZgL (k:Int) (n:Nat) (hn:n≤1048576) (h0:1≤k) (h1:k≤1000000000):Zbg (mkTr k n) k=some (k+2*n):=by
 unfold Zbg
 have e0:(k,0)=(fun i:Nat=>((k+2*(i:Int),(i:Int)):Int × Int)) 0:=by simp
 have hh:iterF (ZbC (mkTr k n)) NN ((fun i:Nat=>(k+2*(i:Int),(i:Int))) 0)=some (Sum.inl (k+2*n)):=by
  refine Zes (fun i:Nat=>(k+2*(i:Int),(i:Int))) (n:=n) ?_ ?_ NN (by unfold NN; omega)
  ·intro i hi
   have hL:i<(mkTr k n).length:=by rw [Zgd]; exact hi
   have g:(mkTr k n)[i]=mTr (k+2*(i:Int)):=by simp [mkTr]
   have hg:=Zd5 hL
   rw [g] at hg
   have d1:decide ((i:Int)<((mkTr k n).length:Int))=true:=decide_eq_true (by omega)
   have hq2:k+2*((i+1:Nat):Int)=k+2*(i:Int)+1+1:=by omega
   rw [hq2]
   generalize mkTr k n=L at *
   have hq0:1≤k+2*(i:Int):=by omega
   have hq1:k+2*(i:Int)≤1010000000:=by omega
   generalize k+2*(i:Int)=q at *
   have w1:w64 (q+1)=q+1:=Zc (by omega)
   have w2:w64 (q+1+1)=q+1+1:=Zc (by omega)
   have wi:w64 ((i:Int)+1)=((i+1:Nat):Int):=by rw [Zc (by omega)]; omega
   simp only [ZbC,d1,cond_true,hg,Option.bind_some,w1,w2,wi,mTr,decide_true,Bool.not_true,cond_false]
  ·have d1:decide ((n:Int)<((mkTr k n).length:Int))=false:=decide_eq_false (by simp [Zgd])
   simp only [ZbC,d1,cond_false]
 rw [e0,hh]
 rfl
def mBk (k:Int):YBooking:=⟨k,⟨k+1,k+1+1⟩,k+1+1+1⟩
def mkBk (k:Int) (n:Nat):List YBooking:=(List.range n).map fun i:Nat=>mBk (k+4*(i:Int))
theorem Zga {k:Int} {n:Nat}:(mkBk k n).length=n:=by simp [mkBk]
theorem ZnH {k:Int} {n:Nat}:mkBk k (n+1)=mkBk k n++[mBk (k+4*(n:Int))]:=by simp [mkBk,List.range_succ]
theorem ZhH (a:List YBooking) (k:Int) (ha:a.length≤1048576) (h0:1≤k) (h1:k≤1000000000):ZbG a k=some (k+4*a.length,mkBk k a.length):=by
 unfold ZbG
 have e0:(k,0,a)=(fun i:Nat=>((k+4*(i:Int),(i:Int),mkBk k i++a.drop i):Int × Int × List YBooking)) 0:=by simp [mkBk]
 have hh:iterF Zaq NN ((fun i:Nat=>(k+4*(i:Int),(i:Int),mkBk k i++a.drop i)) 0)=some ((k+4*a.length,mkBk k a.length)):=by
  refine Zes (fun i:Nat=>(k+4*(i:Int),(i:Int),mkBk k i++a.drop i)) (n:=a.length) ?_ ?_ NN (by unfold NN; omega)
  ·intro i hi
   have hL:i<(mkBk k i++a.drop i).length:=by simp [Zga]; omega
   generalize hq:k+4*(i:Int)=q
   have hq0:1≤q:=by omega
   have hq1:q≤1010000000:=by omega
   have hq2:k+4*((i+1:Nat):Int)=q+1+1+1+1:=by omega
   have w1:w64 (q+1)=q+1:=Zc (by omega)
   have w2:w64 (q+1+1)=q+1+1:=Zc (by omega)
   have w3:w64 (q+1+1+1)=q+1+1+1:=Zc (by omega)
   have w4:w64 (q+1+1+1+1)=q+1+1+1+1:=Zc (by omega)
   have wi:w64 ((i:Int)+1)=((i+1:Nat):Int):=by rw [Zc (by omega)]; omega
   have d1:decide ((i:Int)<((mkBk k i++a.drop i).length:Int))=true:=decide_eq_true (by omega)
   have hs:=Zgk (v:=mBk q) Zga (show i<a.length from hi) (M:=mkBk k i)
   rw [ZnH,hq,hq2]
   generalize mkBk k i++a.drop i=L at *
   have gs:∀ (xs:List YBooking) (v:YBooking),i<xs.length→getI (xs.set i v) (i:Int)=some v:=fun xs v h=>Zf5 h
   simp only [Zaq,d1,cond_true,Zd5 hL,Option.bind_some,w1,w2,w3,w4,wi,Int.toNat_natCast,frzL,gs,List.length_set,hL,List.set_set,← hs]
   rfl
  ·have d1:decide ((a.length:Int)<((mkBk k a.length).length:Int))=false:=decide_eq_false (by simp [Zga])
   simp only [Zaq,List.drop_length,List.append_nil,d1,cond_false]
 rw [e0,hh]
 rfl
theorem Zhv (k:Int) (n:Nat) (hn:n≤1048576) (h0:1≤k) (h1:k≤1000000000):ZaT (mkBk k n) k=some (k+4*n):=by
 unfold ZaT
 have e0:(k,0)=(fun i:Nat=>((k+4*(i:Int),(i:Int)):Int × Int)) 0:=by simp
 have hh:iterF (ZaP (mkBk k n)) NN ((fun i:Nat=>(k+4*(i:Int),(i:Int))) 0)=some (Sum.inl (k+4*n)):=by
  refine Zes (fun i:Nat=>(k+4*(i:Int),(i:Int))) (n:=n) ?_ ?_ NN (by unfold NN; omega)
  ·intro i hi
   have hL:i<(mkBk k n).length:=by rw [Zga]; exact hi
   have g:(mkBk k n)[i]=mBk (k+4*(i:Int)):=by simp [mkBk]
   have hg:=Zd5 hL
   rw [g] at hg
   have d1:decide ((i:Int)<((mkBk k n).length:Int))=true:=decide_eq_true (by omega)
   have hq2:k+4*((i+1:Nat):Int)=k+4*(i:Int)+1+1+1+1:=by omega
   rw [hq2]
   generalize mkBk k n=L at *
   have hq0:1≤k+4*(i:Int):=by omega
   have hq1:k+4*(i:Int)≤1010000000:=by omega
   generalize k+4*(i:Int)=q at *
   have w1:w64 (q+1)=q+1:=Zc (by omega)
   have w2:w64 (q+1+1)=q+1+1:=Zc (by omega)
   have w3:w64 (q+1+1+1)=q+1+1+1:=Zc (by omega)
   have w4:w64 (q+1+1+1+1)=q+1+1+1+1:=Zc (by omega)
   have wi:w64 ((i:Int)+1)=((i+1:Nat):Int):=by rw [Zc (by omega)]; omega
   simp only [ZaP,d1,cond_true,hg,Option.bind_some,w1,w2,w3,w4,wi,mBk,decide_true,Bool.not_true,cond_false]
  ·have d1:decide ((n:Int)<((mkBk k n).length:Int))=false:=decide_eq_false (by simp [Zga])
   simp only [ZaP,d1,cond_false]
 rw [e0,hh]
 rfl
def mSc (k:Int):YScan:=⟨k,k+1,k+1+1,ZaK (k+1+1+1),⟨k+1+1+1+1,k+1+1+1+1+1⟩⟩
def mkSc (k:Int) (n:Nat):List YScan:=(List.range n).map fun i:Nat=>mSc (k+6*(i:Int))
theorem Zgc {k:Int} {n:Nat}:(mkSc k n).length=n:=by simp [mkSc]
theorem ZnK {k:Int} {n:Nat}:mkSc k (n+1)=mkSc k n++[mSc (k+6*(n:Int))]:=by simp [mkSc,List.range_succ]
theorem ZjJ (a:List YScan) (k:Int) (ha:a.length≤1048576) (h0:1≤k) (h1:k≤1000000000):ZcA a k=some (k+6*a.length,mkSc k a.length):=by
 unfold ZcA
 have e0:(k,0,a)=(fun i:Nat=>((k+6*(i:Int),(i:Int),mkSc k i++a.drop i):Int × Int × List YScan)) 0:=by simp [mkSc]
 have hh:iterF ZaQ NN ((fun i:Nat=>(k+6*(i:Int),(i:Int),mkSc k i++a.drop i)) 0)=some ((k+6*a.length,mkSc k a.length)):=by
  refine Zes (fun i:Nat=>(k+6*(i:Int),(i:Int),mkSc k i++a.drop i)) (n:=a.length) ?_ ?_ NN (by unfold NN; omega)
  ·intro i hi
   have hL:i<(mkSc k i++a.drop i).length:=by simp [Zgc]; omega
   generalize hq:k+6*(i:Int)=q
   have hq0:1≤q:=by omega
   have hq1:q≤1010000000:=by omega
   have hq2:k+6*((i+1:Nat):Int)=q+1+1+1+1+1+1:=by omega
   have w1:w64 (q+1)=q+1:=Zc (by omega)
   have w2:w64 (q+1+1)=q+1+1:=Zc (by omega)
   have w3:w64 (q+1+1+1)=q+1+1+1:=Zc (by omega)
   have w4:w64 (q+1+1+1+1)=q+1+1+1+1:=Zc (by omega)
   have w5:w64 (q+1+1+1+1+1)=q+1+1+1+1+1:=Zc (by omega)
   have w6:w64 (q+1+1+1+1+1+1)=q+1+1+1+1+1+1:=Zc (by omega)
   have t3:Zi (q+1+1+1)=some (ZaK (q+1+1+1)):=Zen (by omega)
   have wi:w64 ((i:Int)+1)=((i+1:Nat):Int):=by rw [Zc (by omega)]; omega
   have d1:decide ((i:Int)<((mkSc k i++a.drop i).length:Int))=true:=decide_eq_true (by omega)
   have hs:=Zgk (v:=mSc q) Zgc (show i<a.length from hi) (M:=mkSc k i)
   rw [ZnK,hq,hq2]
   generalize mkSc k i++a.drop i=L at *
   have gs:∀ (xs:List YScan) (v:YScan),i<xs.length→getI (xs.set i v) (i:Int)=some v:=fun xs v h=>Zf5 h
   simp only [ZaQ,d1,cond_true,t3,Zd5 hL,Option.bind_some,w1,w2,w3,w4,w5,w6,wi,Int.toNat_natCast,frzL,gs,List.length_set,hL,List.set_set,← hs]
   rfl
  ·have d1:decide ((a.length:Int)<((mkSc k a.length).length:Int))=false:=decide_eq_false (by simp [Zgc])
   simp only [ZaQ,List.drop_length,List.append_nil,d1,cond_false]
 rw [e0,hh]
 rfl
theorem Zju (k:Int) (n:Nat) (hn:n≤1048576) (h0:1≤k) (h1:k≤1000000000):ZbK (mkSc k n) k=some (k+6*n):=by
 unfold ZbK
 have e0:(k,0)=(fun i:Nat=>((k+6*(i:Int),(i:Int)):Int × Int)) 0:=by simp
 have hh:iterF (ZbB (mkSc k n)) NN ((fun i:Nat=>(k+6*(i:Int),(i:Int))) 0)=some (Sum.inl (k+6*n)):=by
  refine Zes (fun i:Nat=>(k+6*(i:Int),(i:Int))) (n:=n) ?_ ?_ NN (by unfold NN; omega)
  ·intro i hi
   have hL:i<(mkSc k n).length:=by rw [Zgc]; exact hi
   have g:(mkSc k n)[i]=mSc (k+6*(i:Int)):=by simp [mkSc]
   have hg:=Zd5 hL
   rw [g] at hg
   have d1:decide ((i:Int)<((mkSc k n).length:Int))=true:=decide_eq_true (by omega)
   have hq2:k+6*((i+1:Nat):Int)=k+6*(i:Int)+1+1+1+1+1+1:=by omega
   rw [hq2]
   generalize mkSc k n=L at *
   have hq0:1≤k+6*(i:Int):=by omega
   have hq1:k+6*(i:Int)≤1010000000:=by omega
   generalize k+6*(i:Int)=q at *
   have w1:w64 (q+1)=q+1:=Zc (by omega)
   have w2:w64 (q+1+1)=q+1+1:=Zc (by omega)
   have w3:w64 (q+1+1+1)=q+1+1+1:=Zc (by omega)
   have w4:w64 (q+1+1+1+1)=q+1+1+1+1:=Zc (by omega)
   have w5:w64 (q+1+1+1+1+1)=q+1+1+1+1+1:=Zc (by omega)
   have w6:w64 (q+1+1+1+1+1+1)=q+1+1+1+1+1+1:=Zc (by omega)
   have t3:Zi (q+1+1+1)=some (ZaK (q+1+1+1)):=Zen (by omega)
   have wi:w64 ((i:Int)+1)=((i+1:Nat):Int):=by rw [Zc (by omega)]; omega
   simp only [ZbB,d1,cond_true,t3,hg,Option.bind_some,w1,w2,w3,w4,w5,w6,wi,mSc,decide_true,Bool.not_true,cond_false]
  ·have d1:decide ((n:Int)<((mkSc k n).length:Int))=false:=decide_eq_false (by simp [Zgc])
   simp only [ZbB,d1,cond_false]
 rw [e0,hh]
 rfl
def E00:Env:=E1 (fun _=>False) (fun _=>none) 0
theorem Zrs {w w':World} {E:Env} {p:PV} {x:Value} (h:Rep w E00 p x):Rep w' E p x:=by
 induction h with
 | c h=>
  refine .c ?_
  induction h with
  | v x h=>exact .v x h
  | ud=>exact .ud
  | un x=>exact .un x
  | nil A c=>exact .nil A c
  | sl _ _ _ _ _ _ hS=>exact hS.elim
  | rp _ _ _ _ hS=>exact hS.elim
  | fn f cs vs hl hr ih=>exact .fn f cs vs hl ih
 | ms l x hl=>exact absurd hl (Nat.not_lt_zero _)
 | ss l a b x hl=>exact absurd hl (Nat.not_lt_zero _)
 | be l i o x hl=>exact absurd hl (Nat.not_lt_zero _)
 | ag cs vs hl h1 hr ih=>exact .ag cs vs hl h1 ih
 | tu ps vs hl hr ih=>exact .tu ps vs hl ih
 | fn f cs vs hl hr ih=>exact .fn f cs vs hl ih
theorem Zaz.to0 {w:World} {T:TypeId} {k:Nat} {es:List (List PV)} {B:Blk} (h:Zaz w E00 ⟨T,k,es⟩ B) (E:Env):Zaz w E ⟨T,k,es⟩ B:=
 ⟨h.k,h.n,h.T,h.pos,h.nc,h.cm,h.es,h.nil,fun hz=>by
  obtain ⟨cells,m1,m2,m3⟩:=h.mem hz
  exact ⟨cells,m1,m2,fun i cs j p hi hj=>by obtain ⟨x,a,b,c⟩:=m3 i cs j p hi hj; exact ⟨x,a,b,Zrs c⟩⟩,fun _ h=>by cases h⟩
theorem Zaz.flat0 {w:World} {E:Env} {T:TK} {T0:TypeId} {k:Nat} {es:List (List PV)} {B:Blk} (h:Zaz w E ⟨T,k,es⟩ B) (hf:∀ cs∈es,∀ p∈cs,∃ v,p=.v v) (hT:T.t=T0:=by rfl):Zaz w E00 ⟨T0,k,es⟩ B:=
 ⟨h.k,h.n,h.T.trans hT,h.pos,h.nc,h.cm,h.es,h.nil,fun hz=>by
  obtain ⟨cells,m1,m2,m3⟩:=h.mem hz
  exact ⟨cells,m1,m2,fun i cs j p hi hj=>by
   obtain ⟨x,a,b,c⟩:=m3 i cs j p hi hj
   obtain ⟨v,rfl⟩:=hf cs (List.mem_of_getElem? hi) p (List.mem_of_getElem? hj)
   obtain ⟨rfl,h1⟩:=c.v_inv
   exact ⟨x,a,b,.c (.v _ h1)⟩⟩,fun _ h=>by cases h⟩
theorem Zaz.keep0 {w w':World} {T:TypeId} {k:Nat} {es:List (List PV)} {B:Blk} (h:Zaz w E00 ⟨T,k,es⟩ B) (hh:B.z=false→w'.heap[B.b]?=w.heap[B.b]?):Zaz w' E00 ⟨T,k,es⟩ B:=
 ⟨h.k,h.n,h.T,h.pos,h.nc,h.cm,h.es,h.nil,fun hz=>by
  obtain ⟨cells,m1,m2,m3⟩:=h.mem hz
  exact ⟨cells,(hh hz).trans m1,m2,fun i cs j p hi hj=>by obtain ⟨x,a,b,c⟩:=m3 i cs j p hi hj; exact ⟨x,a,b,Zrs c⟩⟩,fun _ h=>by cases h⟩
theorem CallM.mark {P:Program} {f:FuncId} {T:TypeId} {k:Nat} {es es':List (List PV)} {k0 k1:Int} (h:CallM P f [.ms 0,vi k0] [some ⟨T,k,es⟩] (vi k1) [some ⟨T,k,es'⟩]) (hf:∀ cs∈es',∀ p∈cs,∃ v,p=.v v) {w:World} {B:Blk} (hB:Zaz w E00 ⟨T,k,es⟩ B) (ht:Tab w (fun b=>B.z=false∧b=B.b)):
 Calls P f #[B.sv,I k0] w fun e w'=>e=.returned (I k1)∧Zaz w' E00 ⟨T,k,es'⟩ B∧UpO (fun b=>B.z=false∧b=B.b) w w':=by
 have hO:∀ b,own0 (fun l=>if l=0 then some B else none) b↔(B.z=false∧b=B.b):=fun b=>by
  constructor
  ·rintro ⟨l,B',h1,h2,rfl⟩
   by_cases hl:l=0
   ·simp only [hl,if_true,Option.some.injEq] at h1; subst h1; exact ⟨h2,rfl⟩
   ·simp only [hl,if_false] at h1; cases h1
  ·rintro ⟨h1,rfl⟩; exact ⟨0,B,rfl,h1,rfl⟩
 have eO:own0 (fun l=>if l=0 then some B else none)=fun b=>B.z=false∧b=B.b:=funext fun b=>propext (hO b)
 have hlt:B.z=false→B.b<w.heap.size:=fun hz=>by
  obtain ⟨cells,m1,_⟩:=hB.mem hz
  exact (Array.getElem?_eq_some_iff.1 m1).1
 have b0:∀ {l:Nat} {B':Blk},(if l=0 then some B else none)=some B'→l=0∧B'=B:=fun {l B'} h=>by
  by_cases hl:l=0
  ·simp only [hl,if_true,Option.some.injEq] at h; exact ⟨hl,h.symm⟩
  ·simp only [hl,if_false] at h; cases h
 have hok:Ok w (own0 fun l=>if l=0 then some B else none) (E1 (fun _=>False) (fun l=>if l=0 then some B else none) 1) w [some ⟨T,k,es⟩]:=by
  refine ⟨UpO.refl _ _,fun b h=>h.elim,fun l B' h hz=>?_,fun l l' B1 B2 h1 h2 _ _ _=>?_,fun l h=>h,fun l B' h=>?_,fun l mb hm=>?_,fun l B' h=>?_,eO ▸ ht,fun _ _ h=>h.elim⟩
  ·obtain ⟨rfl,rfl⟩:=b0 h
   exact ⟨.inl ⟨0,_,h,hz,rfl⟩,hlt hz,fun h=>h⟩
  ·rw [(b0 h1).1,(b0 h2).1]
  ·rw [(b0 h).1]; exact Nat.zero_lt_one
  ·cases l with
   | succ l=>simp at hm
   | zero=>
    obtain rfl:_=mb:=by simpa using hm
    exact ⟨B,rfl,hB.to0 _⟩
  ·rw [(b0 h).1]; exact ⟨_,rfl⟩
 refine (h (fun _=>False) (fun l=>if l=0 then some B else none) w #[B.sv,I k0] (fun _ _=>False) hok rfl fun i p hp=>?_).mono ?_
 ·match i,hp with
  | 0,hp=>
   obtain rfl:=Option.some.inj hp
   exact ⟨_,rfl,.ms 0 _ Nat.zero_lt_one (by unfold Blk.sv; split <;> rfl) fun B' hB'=>by
    have e:some B=some B':=hB'
    cases e
    rfl⟩
  | 1,hp=>obtain rfl:=Option.some.inj hp; exact ⟨_,rfl,.c (.v _ rfl)⟩
  | i+2,hp=>simp at hp
 ·rintro e w' ⟨v,E',rfl,hk,_,_,⟨hβ,_⟩,hr⟩
  obtain ⟨rfl,_⟩:=hr.v_inv
  refine ⟨rfl,?_,eO ▸ hk.up⟩
  obtain ⟨B',h1,h2⟩:=hk.mem 0 _ rfl
  obtain ⟨_,rfl⟩:=b0 (hβ 0 B' Nat.zero_lt_one h1)
  exact h2.flat0 hf
def Zbn (a:List YOrder) (s0:Int × Int):Option ((Int × Int) ⊕ (Int ⊕ Int)):=
 cond (decide (s0.2<(a.length:Int)))
 ((getI a s0.2).bind fun y1=>
 (Zi s0.1).bind fun y2=>
 cond (!decide (y1.from_=y2))
 (some (.inr (.inr (-1))))
 ((getI a s0.2).bind fun y3=>
 (Zi (w64 (s0.1+1))).bind fun y4=>
 cond (!decide (y3.to_=y4))
 (some (.inr (.inr (-1))))
 ((getI a s0.2).bind fun y5=>
 cond (!decide (y5.service=(w64 ((w64 (s0.1+1))+1))))
 (some (.inr (.inr (-1))))
 ((getI a s0.2).bind fun y6=>
 cond (!decide (y6.weight=(w64 ((w64 ((w64 (s0.1+1))+1))+1))))
 (some (.inr (.inr (-1))))
 ((getI a s0.2).bind fun y7=>
 cond (!decide (y7.at_=(w64 ((w64 ((w64 ((w64 (s0.1+1))+1))+1))+1))))
 (some (.inr (.inr (-1))))
 ((getI a s0.2).bind fun y8=>
 cond (!decide (y8.due=(w64 ((w64 ((w64 ((w64 ((w64 (s0.1+1))+1))+1))+1))+1))))
 (some (.inr (.inr (-1))))
 ((getI a s0.2).bind fun y9=>
 (Zbg y9.way (w64 ((w64 ((w64 ((w64 ((w64 ((w64 (s0.1+1))+1))+1))+1))+1))+1))).bind fun y10=>
 cond (decide (y10<0))
 (some (.inr (.inr (-1))))
 ((getI a s0.2).bind fun y11=>
 cond (!decide (y11.gone=y10))
 (some (.inr (.inr (-1))))
 ((getI a s0.2).bind fun y12=>
 cond (!decide (y12.state=(w64 (y10+1))))
 (some (.inr (.inr (-1))))
 ((getI a s0.2).bind fun y13=>
 (Zi (w64 ((w64 (y10+1))+1))).bind fun y14=>
 cond (!decide (y13.place=y14))
 (some (.inr (.inr (-1))))
 ((getI a s0.2).bind fun y15=>
 cond (!decide (y15.ended=(w64 ((w64 ((w64 (y10+1))+1))+1))))
 (some (.inr (.inr (-1))))
 (some (.inl ((w64 ((w64 ((w64 ((w64 (y10+1))+1))+1))+1)),(w64 (s0.2+1))))))))))))))))
 (some (.inr (.inl s0.1)))
instance (a:List YOrder):LoopE (Zbn a):=⟨fun s0=>(.sl (a.map cOrder)::vi s0.1::(U 3 (vi s0.2::(U 109 [])))),fun s0=>[]⟩
def Zby (a:List YOrder) (k:Int):Option Int:=
 (iterF (Zbn a) NN (k,0)).bind (selim (fun o0=>
 some o0) (fun r=>some r))
instance (a:List YOrder) (k:Int):CT Tryz.prog (Zby a k):=⟨97,[.sl (a.map cOrder),vi k],[],fun r=>vi r,fun r=>[],fun H=>by replace H:=H0 H; unfold Zby at H; exact callM_of Tryz.func97 rfl Tryz.ntmps97 Tryz.results97 fun Q hQ hQn=>wk3⟩
def ZbS (a:YNetwork) (k:Int):Option Int:=
 (ZcY a.legs k).bind fun y1=>
 cond (decide (y1<0))
 (some (-1))
 ((ZbA a.off y1).bind fun y2=>
 cond (decide (y2<0))
 (some (-1))
 (some y2))
instance (a:YNetwork) (k:Int):CT Tryz.prog (ZbS a k):=⟨96,[.ag (cNetwork a),vi k],[],fun r=>vi r,fun r=>[],fun H=>by replace H:=H0 H; unfold ZbS at H; exact callM_of Tryz.func96 rfl Tryz.ntmps96 Tryz.results96 fun Q hQ hQn=>wk3⟩
def Zdv (a:YWorld) (k:Int):Option Int:=
 (ZbS a.network k).bind fun y1=>
 cond (decide (y1<0))
 (some (-1))
 ((Zby a.orders y1).bind fun y2=>
 cond (decide (y2<0))
 (some (-1))
 ((ZaT a.bookings y2).bind fun y3=>
 cond (decide (y3<0))
 (some (-1))
 ((Zbg a.closed y3).bind fun y4=>
 cond (decide (y4<0))
 (some (-1))
 ((ZbK a.scans y4).bind fun y5=>
 cond (decide (y5<0))
 (some (-1))
 ((ZbA a.skip y5).bind fun y6=>
 cond (decide (y6<0))
 (some (-1))
 (some y6))))))
instance (a:YWorld) (k:Int):CT Tryz.prog (Zdv a k):=⟨21,[.ag (cWorld a),vi k],[],fun r=>vi r,fun r=>[],fun H=>by replace H:=H0 H; unfold Zdv at H; exact callM_of Tryz.func21 rfl Tryz.ntmps21 Tryz.results21 fun Q hQ hQn=>wk3⟩
set_option maxHeartbeats 4000000
def mOr (k:Int) (n:Nat):YOrder:=⟨ZaK k,ZaK (k+1),k+2,k+3,k+4,k+5,mkTr (k+6) n,k+6+2*n,k+7+2*n,ZaK (k+8+2*n),k+9+2*n⟩
def nOr (k:Int):List YOrder→Int
 | []=>k
 | o::os=>nOr (k+10+2*(o.way.length:Int)) os
def mkOr (k:Int):List YOrder→List YOrder
 | []=>[]
 | o::os=>mOr k o.way.length::mkOr (k+10+2*(o.way.length:Int)) os
theorem ZlI (k:Int) (os:List YOrder):k≤nOr k os:=by
 induction os generalizing k with
 | nil=>exact Int.le_refl _
 | cons o os ih=>have:=ih (k+10+2*(o.way.length:Int)); unfold nOr; omega
theorem ZlJ (k:Int) (os:List YOrder) (o:YOrder):nOr k (os++[o])=nOr k os+10+2*(o.way.length:Int):=by
 induction os generalizing k with
 | nil=>rfl
 | cons x os ih=>simp only [List.cons_append,nOr]; exact ih _
theorem Zqw (k:Int) (as_ bs:List YOrder):nOr k (as_++bs)=nOr (nOr k as_) bs:=by
 induction as_ generalizing k with
 | nil=>rfl
 | cons x os ih=>simp only [List.cons_append,nOr]; exact ih _
theorem ZlK (k:Int) (os:List YOrder) (i:Nat):nOr k (os.take i)≤nOr k os:=by
 have:=Zqw k (os.take i) (os.drop i)
 rw [List.take_append_drop] at this
 rw [this]; exact ZlI _ _
theorem Zha (k:Int) (os:List YOrder):(mkOr k os).length=os.length:=by
 induction os generalizing k with
 | nil=>rfl
 | cons o os ih=>simp only [mkOr,List.length_cons,ih]
theorem ZiQ (k:Int) (os:List YOrder) (i:Nat):(mkOr k os)[i]?=(os[i]?).map fun o=>mOr (nOr k (os.take i)) o.way.length:=by
 induction os generalizing k i with
 | nil=>simp [mkOr]
 | cons o os ih=>
  cases i with
  | zero=>simp [mkOr,nOr]
  | succ i=>simp only [mkOr,List.getElem?_cons_succ,ih,List.take_succ_cons,nOr]
theorem ZiI (os:List YOrder) (k:Int) (hn:os.length≤1048576) (hw:∀ o∈os,o.way.length≤1048576) (h0:1≤k) (h1:nOr k os≤1000000000):Zby (mkOr k os) k=some (nOr k os):=by
 unfold Zby
 have e0:(k,0)=(fun i:Nat=>((nOr k (os.take i),(i:Int)):Int × Int)) 0:=by simp [nOr]
 have hh:iterF (Zbn (mkOr k os)) NN ((fun i:Nat=>(nOr k (os.take i),(i:Int))) 0)=some (Sum.inl (nOr k os)):=by
  refine Zes (fun i:Nat=>(nOr k (os.take i),(i:Int))) (n:=os.length) ?_ ?_ NN (by unfold NN; omega)
  ·intro i hi
   have hx:os[i]?=some os[i]:=List.getElem?_eq_getElem hi
   have hm:os[i]∈os:=List.getElem_mem hi
   have hwl:=hw _ hm
   have hq2:nOr k (os.take (i+1))=nOr k (os.take i)+10+2*(os[i].way.length:Int):=by rw [List.take_add_one,hx]; exact ZlJ _ _ _
   have hq0:1≤nOr k (os.take i):=Int.le_trans h0 (ZlI _ _)
   have hq1:nOr k (os.take (i+1))≤1000000000:=Int.le_trans (ZlK _ _ _) h1
   have hg:getI (mkOr k os) (i:Int)=some (mOr (nOr k (os.take i)) os[i].way.length):=by rw [Zd,ZiQ,hx]; rfl
   have d1:decide ((i:Int)<((mkOr k os).length:Int))=true:=decide_eq_true (by rw [Zha]; omega)
   rw [hq2] at hq1 ⊢
   generalize nOr k (os.take i)=q at *
   generalize os[i].way.length=n at *
   generalize mkOr k os=L at *
   have w1:w64 (q+1)=q+1:=Zc (by omega)
   have w2:w64 (q+1+1)=q+2:=by rw [Zc (by omega)]; omega
   have w3:w64 (q+2+1)=q+3:=by rw [Zc (by omega)]; omega
   have w4:w64 (q+3+1)=q+4:=by rw [Zc (by omega)]; omega
   have w5:w64 (q+4+1)=q+5:=by rw [Zc (by omega)]; omega
   have w6:w64 (q+5+1)=q+6:=by rw [Zc (by omega)]; omega
   have hT:=ZgL (q+6) n hwl (by omega) (by omega)
   have w7:w64 (q+6+2*(n:Int)+1)=q+7+2*n:=by rw [Zc (by omega)]; omega
   have w8:w64 (q+7+2*(n:Int)+1)=q+8+2*n:=by rw [Zc (by omega)]; omega
   have w9:w64 (q+8+2*(n:Int)+1)=q+9+2*n:=by rw [Zc (by omega)]; omega
   have w10:w64 (q+9+2*(n:Int)+1)=q+10+2*n:=by rw [Zc (by omega)]; omega
   have wi:w64 ((i:Int)+1)=((i+1:Nat):Int):=by rw [Zc (by omega)]; omega
   have t0:Zi q=some (ZaK q):=Zen (by omega)
   have t1:Zi (q+1)=some (ZaK (q+1)):=Zen (by omega)
   have t2:Zi (q+8+2*(n:Int))=some (ZaK (q+8+2*(n:Int))):=Zen (by omega)
   have dn:decide (q+6+2*(n:Int)<0)=false:=decide_eq_false (by omega)
   simp only [Zbn,d1,cond_true,hg,Option.bind_some,mOr,w1,w2,w3,w4,w5,w6,t0,t1,hT,dn,w7,w8,w9,w10,t2,wi,decide_true,Bool.not_true,cond_false]
  ·have d1:decide ((os.length:Int)<((mkOr k os).length:Int))=false:=decide_eq_false (by rw [Zha]; omega)
   simp only [Zbn,d1,cond_false,List.take_length]
 rw [e0,hh]
 rfl
def k1W (g:YWorld) (k:Int):Int:=k+6*g.network.legs.length+g.network.off.length
def k2W (g:YWorld) (k:Int):Int:=nOr (k1W g k) g.orders
def k3W (g:YWorld) (k:Int):Int:=k2W g k+4*g.bookings.length
def k4W (g:YWorld) (k:Int):Int:=k3W g k+2*g.closed.length
def k5W (g:YWorld) (k:Int):Int:=k4W g k+6*g.scans.length
def k6W (g:YWorld) (k:Int):Int:=k5W g k+g.skip.length
def mkW (g:YWorld) (k:Int):YWorld:=⟨⟨mkLg k g.network.legs.length,mkI (k+6*g.network.legs.length) g.network.off.length,g.network.change⟩,mkOr (k1W g k) g.orders,mkBk (k2W g k) g.bookings.length,mkTr (k3W g k) g.closed.length,g.now,mkSc (k4W g k) g.scans.length,mkI (k5W g k) g.skip.length,g.made⟩
structure Zh4 (g:YWorld) (k:Int):Prop where
 legs:g.network.legs.length≤1048576
 off:g.network.off.length≤1048576
 orders:g.orders.length≤1048576
 way:∀ o∈g.orders,o.way.length≤1048576
 bookings:g.bookings.length≤1048576
 closed:g.closed.length≤1048576
 scans:g.scans.length≤1048576
 skip:g.skip.length≤1048576
 low:1≤k
 top:k6W g k≤900000000
theorem Zh4.ks {g:YWorld} {k:Int} (h:Zh4 g k):1≤k1W g k∧k1W g k≤k2W g k∧k2W g k≤k3W g k∧k3W g k≤k4W g k∧k4W g k≤k5W g k∧k5W g k≤k6W g k∧k+6*g.network.legs.length≤k1W g k:=by
 have h1:=h.low
 have h2:=ZlI (k1W g k) g.orders
 unfold k6W k5W k4W k3W k2W
 refine ⟨by unfold k1W; omega,h2,by omega,by omega,by omega,by omega,by unfold k1W; omega⟩
theorem Zjv {g:YWorld} {k:Int} (h:Zh4 g k):Zdv (mkW g k) k=some (k6W g k):=by
 obtain ⟨a1,a2,a3,a4,a5,a6,a7⟩:=h.ks
 have ht:=h.top
 have hl:=h.low
 have e1:=Zkw k g.network.legs.length h.legs hl (by omega)
 have e2:=Zhw (k+6*g.network.legs.length) g.network.off.length h.off (by omega) (by omega)
 have e3:=ZiI g.orders (k1W g k) h.orders h.way a1 (by unfold k2W at a3; omega)
 have e4:=Zhv (k2W g k) g.bookings.length h.bookings (by omega) (by omega)
 have e5:=ZgL (k3W g k) g.closed.length h.closed (by omega) (by omega)
 have e6:=Zju (k4W g k) g.scans.length h.scans (by omega) (by omega)
 have e7:=Zhw (k5W g k) g.skip.length h.skip (by omega) (by omega)
 have f1:ZbS (mkW g k).network k=some (k1W g k):=by
  unfold ZbS mkW
  simp only [e1,e2,Option.bind_some]
  rw [decide_eq_false (by omega),cond_false,decide_eq_false (by omega),cond_false]
  rfl
 unfold Zdv
 rw [f1]
 have g2:Zby (mkW g k).orders (k1W g k)=some (k2W g k):=e3
 have g3:ZaT (mkW g k).bookings (k2W g k)=some (k3W g k):=e4
 have g4:Zbg (mkW g k).closed (k3W g k)=some (k4W g k):=e5
 have g5:ZbK (mkW g k).scans (k4W g k)=some (k5W g k):=e6
 have g6:ZbA (mkW g k).skip (k5W g k)=some (k6W g k):=e7
 simp only [Option.bind_some,g2,g3,g4,g5,g6]
 rw [decide_eq_false (by omega),decide_eq_false (by omega),decide_eq_false (by omega),decide_eq_false (by omega),decide_eq_false (by omega),decide_eq_false (by omega)]
 rfl
set_option maxRecDepth 100000
structure MX (w a:World) (g n:Nat) (P:Nat→Option Value) (Q:Nat→Prop):Prop where
 os:a.os=w.os
 tape:a.tape=w.tape
 output:a.output=w.output
 size:w.heap.size≤a.heap.size
 row:∃ c:Array Value,a.heap[g]?=some (.cells c 62 (0,0))∧c.size=n∧∀ o v,P o=some v→c[o]?=some v
 oth:∀ b,b<w.heap.size→b≠g→¬ Q b→a.heap[b]?=w.heap[b]?
section
variable {w a b:World} {g n:Nat} {P P':Nat→Option Value} {Q:Nat→Prop}
theorem MX.lt (h:MX w a g n P Q):g<a.heap.size:=by obtain ⟨c,h1,_⟩:=h.row; exact (Array.getElem?_eq_some_iff.1 h1).1
theorem MX.start (h:∃ c:Array Value,w.heap[g]?=some (.cells c 62 (0,0))∧c.size=n∧∀ o v,P o=some v→c[o]?=some v):MX w w g n P Q:=⟨rfl,rfl,rfl,Nat.le_refl _,h,fun _ _ _ _=>rfl⟩
theorem MX.set (h:MX w a g n P Q) (o:Nat) (v:Value) (ho:o<n):MX w (a.setCell ⟨g,o,none⟩ v) g n (fun x=>if x=o then some v else P x) Q:=by
 obtain ⟨c,h1,h2,h3⟩:=h.row
 refine ⟨h.os,h.tape,h.output,by rw [World.size_setCell]; exact h.size,⟨_,heap_setCell_same a g o c _ v h1,by simpa using h2,fun x u hx=>?_⟩,fun x hx hg hq=>(heap_setCell_other a ⟨g,o,none⟩ x v hg).trans (h.oth x hx hg hq)⟩
 by_cases e:x=o
 ·subst e
  simp only [if_true] at hx
  rw [Array.getElem?_setIfInBounds_self_of_lt (by omega)]; exact hx
 ·simp only [e,if_false] at hx
  rw [Array.getElem?_setIfInBounds_ne (Ne.symm e)]; exact h3 x u hx
theorem MX.up (h:MX w a g n P Q) (k:Up a b):MX w b g n P Q:=by
 obtain ⟨c,h1,h2,h3⟩:=h.row
 exact ⟨k.os.trans h.os,k.tape.trans h.tape,k.output.trans h.output,Nat.le_trans h.size k.size,⟨c,(k.block g h.lt).trans h1,h2,h3⟩,fun x hx hg hq=>(k.block x (Nat.lt_of_lt_of_le hx h.size)).trans (h.oth x hx hg hq)⟩
theorem MX.upO (h:MX w a g n P Q) {O:Nat→Prop} (k:UpO O a b) (hO:∀ x,O x→x≠g∧Q x):MX w b g n P Q:=by
 obtain ⟨c,h1,h2,h3⟩:=h.row
 exact ⟨k.os.trans h.os,k.tape.trans h.tape,k.output.trans h.output,Nat.le_trans h.size k.size,⟨c,(k.block g h.lt fun ho=>(hO g ho).1 rfl).trans h1,h2,h3⟩,fun x hx hg hq=>(k.block x (Nat.lt_of_lt_of_le hx h.size) fun ho=>hq (hO x ho).2).trans (h.oth x hx hg hq)⟩
theorem MX.weak (h:MX w a g n P Q) (hP:∀ o v,P' o=some v→P o=some v):MX w a g n P' Q:=by
 obtain ⟨c,h1,h2,h3⟩:=h.row
 exact ⟨h.os,h.tape,h.output,h.size,⟨c,h1,h2,fun o v ho=>h3 o v (hP o v ho)⟩,h.oth⟩
theorem MX.more (h:MX w a g n P Q) {Q':Nat→Prop} (hQ:∀ x,Q x→Q' x):MX w a g n P Q':=⟨h.os,h.tape,h.output,h.size,h.row,fun x hx hg hq=>h.oth x hx hg fun h'=>hq (hQ x h')⟩
theorem MX.trans (h:MX w a g n P Q) {Q':Nat→Prop} (k:MX a b g n P' Q') (hQ:∀ x,Q' x→Q x):MX w b g n P' Q:=
 ⟨k.os.trans h.os,k.tape.trans h.tape,k.output.trans h.output,Nat.le_trans h.size k.size,k.row,fun x hx hg hq=>(k.oth x (Nat.lt_of_lt_of_le hx h.size) hg fun h'=>hq (hQ x h')).trans (h.oth x hx hg hq)⟩
theorem MX.cell (h:MX w a g n P Q) {o:Nat} {v:Value} (hP:P o=some v):a.cell? ⟨g,o,none⟩=some v:=by
 obtain ⟨c,h1,h2,h3⟩:=h.row
 rw [cell_of_row a g o c _ (0,0) h1]; exact h3 o v hP
theorem MX.any (h:MX w a g n P Q) {o:Nat} (ho:o<n):(∃ u,a.cell? ⟨g,o,none⟩=some u)∧a.frozen? ⟨g,o,none⟩=false:=by
 obtain ⟨c,h1,h2,h3⟩:=h.row
 exact ⟨⟨c[o]'(by omega),by rw [cell_of_row a g o c _ (0,0) h1]; exact Array.getElem?_eq_getElem _⟩,frozen_of_row a g o c _ h1⟩
end
def WayB (w:World) (way:List YTrip) (u:Value) (B:Blk):Prop:=
 (way=[]∧B.z=true∧∃ A c,u=.slice A 0 c)∨(B.z=false∧u=B.sv∧Zaz w E00 ⟨.of 55,2,way.map cTrip⟩ B)
theorem WayB.keep {w a:World} {way:List YTrip} {u:Value} {B:Blk} (h:WayB w way u B) (hh:B.z=false→a.heap[B.b]?=w.heap[B.b]?):WayB a way u B:=by
 rcases h with h | ⟨h1,h2,h3⟩
 ·exact .inl h
 ·exact .inr ⟨h1,h2,h3.keep0 hh⟩
theorem WayB.one {w:World} {way:List YTrip} {u:Value} {B:Blk} (h:WayB w way u B):∃ A c,u=.slice A way.length c:=by
 rcases h with ⟨rfl,_,A,c,rfl⟩ | ⟨h1,rfl,h3⟩
 ·exact ⟨A,c,rfl⟩
 ·refine ⟨some ⟨B.b,0,none⟩,B.c,?_⟩
  have:=h3.n
  simp only [List.length_map] at this
  simp [Blk.sv,h1,this]
theorem ZkE (A:Option Addr) (c:Nat) (k:Int) (w:World):Calls Tryz.prog 93 #[.slice A 0 c,.int .i64 k] w fun e w'=>e=.returned (.int .i64 k)∧w'=w:=by
 go_enter Tryz.func93,Tryz.ntmps93
 go_wp2
 go_loopw [5,1] (fun i kk wr=>i=.int .i64 0∧kk=.int .i64 k∧wr=w) (fun _ _ _=>0)
 case atStart=>exact ⟨rfl,rfl,rfl⟩
 case round=>
  obtain ⟨rfl,rfl,rfl⟩:=hrel
  go_wp2
  go_ret
  exact ⟨rfl,rfl⟩
theorem Zp3 {cs:List PV} {l:List YTrip} (h:cs∈l.map cTrip) {p:PV} (hp:p∈cs):∃ v,p=.v v:=by
 obtain ⟨x,_,rfl⟩:=List.mem_map.1 h
 simp only [cTrip,List.mem_cons,List.not_mem_nil,or_false] at hp
 rcases hp with rfl | rfl <;> exact ⟨_,rfl⟩
theorem Zqu {w:World} {way:List YTrip} {u:Value} {B:Blk} (h:WayB w way u B) (hn:way.length≤1048576) {k:Int} (h0:1≤k) (h1:k≤1000000000):
 Calls Tryz.prog 93 #[u,.int .i64 k] w fun e w'=>e=.returned (.int .i64 (k+2*(way.length:Int)))∧WayB w' (mkTr k way.length) u B∧UpO (fun b=>B.z=false∧b=B.b) w w':=by
 rcases h with ⟨rfl,hz,A,c,rfl⟩ | ⟨hz,rfl,hb⟩
 ·refine (ZkE A c k w).mono ?_
  rintro e w' ⟨rfl,rfl⟩
  exact ⟨by simp,.inl ⟨rfl,hz,A,c,rfl⟩,UpO.refl _ _⟩
 ·have hm:=ZgO way k hn h0 h1
  have hC:=CT.ok (P:=Tryz.prog) hm
  simp only [CT.f,CT.args,CT.m0,CT.res,CT.mem] at hC
  refine (hC.mark (fun cs hcs p hp=>Zp3 hcs hp) hb tab0).mono ?_
  rintro e w' ⟨rfl,h2,h3⟩
  exact ⟨rfl,.inr ⟨hz,rfl,h2⟩,h3⟩
def Zqz (k:Int) (n:Nat):Nat→Option Value
 | 0=>some (.string (ZaK k))
 | 1=>some (.string (ZaK (k+1)))
 | 2=>some (.int .i64 (k+1+1))
 | 3=>some (.int .i64 (k+1+1+1))
 | 4=>some (.int .i64 (k+1+1+1+1))
 | 5=>some (.int .i64 (k+1+1+1+1+1))
 | 7=>some (.int .i64 (k+1+1+1+1+1+1+2*n))
 | 8=>some (.int .i64 (k+1+1+1+1+1+1+2*n+1))
 | 9=>some (.string (ZaK (k+1+1+1+1+1+1+2*n+1+1)))
 | 10=>some (.int .i64 (k+1+1+1+1+1+1+2*n+1+1+1))
 | _=>none
def wlen (os:List YOrder) (j:Nat):Nat:=match os[j]? with
 | some o=>o.way.length
 | none=>0
def PP (os:List YOrder) (us:Nat→Value) (k:Int) (j:Nat) (o:Nat):Option Value:=
 if o / 11<os.length then (if o % 11=6 then some (us (o / 11)) else if o / 11<j then Zqz (nOr k (os.take (o / 11))) (wlen os (o / 11)) (o % 11) else none) else none
set_option maxHeartbeats 8000000
def QW (os:List YOrder) (W:Nat→Blk) (b:Nat):Prop:=∃ j,j<os.length∧(W j).z=false∧b=(W j).b
structure MIq (os:List YOrder) (us:Nat→Value) (W:Nat→Blk) (k:Int) (g N:Nat) (w:World) (j:Nat) (a:World):Prop where
 mx:MX w a g N (PP os us k j) (QW os W)
 done:∀ i,i<j→∀ o,os[i]?=some o→WayB a (mkTr (nOr k (os.take i)+6) o.way.length) (us i) (W i)
 rest:∀ i,j≤i→∀ o,os[i]?=some o→WayB a o.way (us i) (W i)
theorem Zl8 {os:List YOrder} {j:Nat} {o:YOrder} (h:os[j]?=some o):wlen os j=o.way.length:=by simp [wlen,h]
theorem Zqa {os:List YOrder} {us:Nat→Value} {k:Int} {j:Nat} {ord:YOrder} (hj:os[j]?=some ord) {q:Int} (hq:q=nOr k (os.take j)) {n:Nat} (hn:n=ord.way.length) (o:Nat) (v:Value) (h:PP os us k (j+1) o=some v):
 (if o=j*11+10 then some (.int .i64 (q+1+1+1+1+1+1+2*n+1+1+1)) else if o=j*11+9 then some (.string (ZaK (q+1+1+1+1+1+1+2*n+1+1))) else if o=j*11+8 then some (.int .i64 (q+1+1+1+1+1+1+2*n+1)) else if o=j*11+7 then some (.int .i64 (q+1+1+1+1+1+1+2*n)) else if o=j*11+5 then some (.int .i64 (q+1+1+1+1+1)) else if o=j*11+4 then some (.int .i64 (q+1+1+1+1)) else if o=j*11+3 then some (.int .i64 (q+1+1+1)) else if o=j*11+2 then some (.int .i64 (q+1+1)) else if o=j*11+1 then some (.string (ZaK (q+1))) else if o=j*11 then some (.string (ZaK q)) else PP os us k j o)=some v:=by
 have hlt:j<os.length:=(List.getElem?_eq_some_iff.1 hj).1
 by_cases hd:o / 11=j
 ·have h6:o=j*11+o % 11:=by omega
  unfold PP at h ⊢
  rw [hd,if_pos hlt] at h
  have hm:o % 11<11:=Nat.mod_lt _ (by omega)
  by_cases c6:o % 11=6
  ·rw [if_pos c6] at h
   rw [if_neg (by omega),if_neg (by omega),if_neg (by omega),if_neg (by omega),if_neg (by omega),if_neg (by omega),if_neg (by omega),if_neg (by omega),if_neg (by omega),if_neg (by omega),hd,if_pos hlt,if_pos c6]
   exact h
  ·rw [if_neg c6,if_pos (by omega),Zl8 hj,← hn,← hq] at h
   rw [hd,if_pos hlt,if_neg c6,if_neg (Nat.lt_irrefl j)]
   have:o % 11=0∨o % 11=1∨o % 11=2∨o % 11=3∨o % 11=4∨o % 11=5∨o % 11=7∨o % 11=8∨o % 11=9∨o % 11=10:=by omega
   rcases this with e | e | e | e | e | e | e | e | e | e <;> rw [e] at h h6 <;> simp only [Zqz] at h <;> rw [h6] <;> simp <;> simpa using h
 ·have ho:PP os us k j o=some v:=by
   unfold PP at h ⊢
   split at h
   ·rename_i h1
    rw [if_pos h1]
    split at h
    ·rename_i h2; rw [if_pos h2]; exact h
    ·rename_i h2
     rw [if_neg h2]
     split at h
     ·rename_i h3; rw [if_pos (by omega)]; exact h
     ·cases h
   ·cases h
  rw [if_neg (by omega),if_neg (by omega),if_neg (by omega),if_neg (by omega),if_neg (by omega),if_neg (by omega),if_neg (by omega),if_neg (by omega),if_neg (by omega),if_neg (by omega)]
  exact ho
theorem ZjI (os:List YOrder) (us:Nat→Value) (W:Nat→Blk) (k:Int) (g c N:Nat) (hN:os.length*11≤N) (w:World) (hs:MIq os us W k g N w 0 w) (hn:os.length≤1048576) (hw:∀ o∈os,o.way.length≤1048576) (h0:1≤k) (h1:nOr k os≤1000000000)
 (hg:∀ j,j<os.length→(W j).z=false→(W j).b≠g) (hd:∀ i j,i<os.length→j<os.length→(W i).z=false→(W j).z=false→(W i).b=(W j).b→i=j):
 Calls Tryz.prog 91 #[.slice (some ⟨g,0,none⟩) os.length c,.int .i64 k] w fun e w'=>e=.returned (.int .i64 (nOr k os))∧MIq os us W k g N w os.length w':=by
 have HG:=Lib.hid hg
 have HD:=Lib.hid hd
 have HW:=Lib.hid hw
 have H1:=Lib.hid h1
 clear hg hd hw h1
 go_enter Tryz.func91,Tryz.ntmps91
 go_wp2
 go_loopw [5,1] (fun i kk wr=>∃ j:Nat,j≤os.length∧i=.int .i64 j∧kk=.int .i64 (nOr k (os.take j))∧MIq os us W k g N w j wr) (fun i _ _=>os.length-(intOf i).toNat)
 case atStart=>exact ⟨0,by omega,rfl,rfl,hs⟩
 case round=>
  obtain ⟨j,hj,rfl,rfl,hM⟩:=hrel
  by_cases hlt:j<os.length
  ·obtain ⟨ord,ho⟩:∃ o,os[j]?=some o:=⟨_,List.getElem?_eq_getElem hlt⟩
   have hq2:nOr k (os.take (j+1))=nOr k (os.take j)+10+2*(ord.way.length:Int):=by rw [List.take_add_one,ho]; exact ZlJ _ _ _
   have hq0:1≤nOr k (os.take j):=Int.le_trans h0 (ZlI _ _)
   have hq1:nOr k (os.take (j+1))≤1000000000:=Int.le_trans (ZlK _ _ _) H1.out
   have hwl:=HW.out ord (List.mem_of_getElem? ho)
   have hway:=hM.rest j (Nat.le_refl j) ord ho
   obtain ⟨A6,c6,hu6⟩:=hway.one
   have HST:=Lib.hid (fun (o:Nat) (v:Value)=>Zqa (os:=os) (us:=us) (k:=k) ho rfl rfl o v)
   have HQ:=Lib.hid hq2
   have HO:=Lib.hid ho
   have HMI:=Lib.hid hM
   have X0:MX wr wr g N (PP os us k j) (fun _=>False):=MX.start hM.mx.row
   have p6:PP os us k j (j*11+6)=some (us j):=by
    unfold PP
    rw [show (j*11+6) / 11=j by omega,if_pos hlt,if_pos (by omega)]
   rw [hq2] at hq1
   clear hq2 ho hM hs
   generalize hqq:nOr k (os.take j)=q at *
   generalize hnn:ord.way.length=n at *
   have HE:=Lib.hid hqq
   clear hqq
   go_wp2_with fail
   refine (Zd7 _ _ (by omega) (by omega)).mono ?_
   rintro e w1 ⟨rfl,hb1⟩
   have X1:=X0.up hb1
   clear hb1
   obtain ⟨⟨u0,d0⟩,f0⟩:=X1.any (o:=j*11) (by omega)
   go_wp2_with fail
   refine (Zd7 _ _ (by omega) (by omega)).mono ?_
   rintro e w2 ⟨rfl,hb2⟩
   have X2:=(X1.set (j*11) (.string (ZaK q)) (by omega)).up hb2
   clear hb2 d0 f0
   obtain ⟨⟨u1,d1⟩,f1⟩:=X2.any (o:=j*11+1) (by omega)
   obtain ⟨⟨u2,d2⟩,f2⟩:=X2.any (o:=j*11+2) (by omega)
   obtain ⟨⟨u3,d3⟩,f3⟩:=X2.any (o:=j*11+3) (by omega)
   obtain ⟨⟨u4,d4⟩,f4⟩:=X2.any (o:=j*11+4) (by omega)
   obtain ⟨⟨u5,d5⟩,f5⟩:=X2.any (o:=j*11+5) (by omega)
   have d6:w2.cell? ⟨g,j*11+6,none⟩=some (us j):=X2.cell (by rw [if_neg (by omega)]; exact p6)
   rw [hu6] at d6
   have X0h:=Lib.hid X0
   have X1h:=Lib.hid X1
   have X2h:=Lib.hid X2
   have HWy:=Lib.hid hway
   have HU:=Lib.hid hu6
   have HP:=Lib.hid p6
   clear X0 X1 X2 hway hu6 p6
   go_wp2_with fail
   have Xc:=((((X2h.out.set (j*11+1) (.string (ZaK (q+1))) (by omega)).set (j*11+2) (.int .i64 (q+1+1)) (by omega)).set (j*11+3) (.int .i64 (q+1+1+1)) (by omega)).set (j*11+4) (.int .i64 (q+1+1+1+1)) (by omega)).set (j*11+5) (.int .i64 (q+1+1+1+1+1)) (by omega)
   have hWb:∀ (i:Nat) (o:YOrder),WayB wr o.way (us i) (W i)→(W i).z=false→(W i).b<wr.heap.size:=fun i o h hz=>by
    rcases h with ⟨_,h2,_⟩ | ⟨_,_,hb⟩
    ·rw [hz] at h2; cases h2
    ·obtain ⟨cells,m1,_⟩:=hb.mem hz
     exact (Array.getElem?_eq_some_iff.1 m1).1
   have hwc:=HWy.out.keep fun hz=>Xc.oth _ (hWb j ord HWy.out hz) (HG.out j hlt hz) (fun h=>h)
   have hcall:=Zqu hwc (by omega) (k:=q+1+1+1+1+1+1) (by omega) (by omega)
   rw [HU.out,hnn] at hcall
   have HCA:=Lib.hid hcall
   have XcH:=Lib.hid Xc
   clear hcall hwc Xc
   refine HCA.out.mono ?_
   rintro e w3 ⟨rfl,hway3,hb3⟩
   have X3:=(XcH.out.more (Q':=fun b=>(W j).z=false∧b=(W j).b) (fun _ h=>h.elim)).upO hb3 (fun x hx=>⟨by rw [hx.2]; exact HG.out j hlt hx.1,hx⟩)
   obtain ⟨⟨u7,d7⟩,f7⟩:=X3.any (o:=j*11+7) (by omega)
   obtain ⟨⟨u8,d8⟩,f8⟩:=X3.any (o:=j*11+8) (by omega)
   have X3h:=Lib.hid X3
   have HW3:=Lib.hid hway3
   clear X3 hway3 hb3 d1 d2 d3 d4 d5 d6 f1 f2 f3 f4 f5
   go_wp2_with fail
   refine (Zd7 _ _ (by omega) (by omega)).mono ?_
   rintro e w4 ⟨rfl,hb4⟩
   have X4:=((X3h.out.set (j*11+7) (.int .i64 (q+1+1+1+1+1+1+2*(n:Int))) (by omega)).set (j*11+8) (.int .i64 (q+1+1+1+1+1+1+2*(n:Int)+1)) (by omega)).up hb4
   obtain ⟨⟨u9,d9⟩,f9⟩:=X4.any (o:=j*11+9) (by omega)
   obtain ⟨⟨u10,d10⟩,f10⟩:=X4.any (o:=j*11+10) (by omega)
   have X4h:=Lib.hid X4
   have HB4:=Lib.hid hb4
   clear X4 hb4 d7 d8 f7 f8
   go_wp2_with fail
   have X5:=(X4h.out.set (j*11+9) (.string (ZaK (q+1+1+1+1+1+1+2*(n:Int)+1+1))) (by omega)).set (j*11+10) (.int .i64 (q+1+1+1+1+1+1+2*(n:Int)+1+1+1)) (by omega)
   have hlen:∀ {i:Nat} {o:YOrder},os[i]?=some o→i<os.length:=fun h=>(List.getElem?_eq_some_iff.1 h).1
   have wlt:∀ {a:World} {way:List YTrip} {u:Value} {B:Blk},WayB a way u B→B.z=false→B.b<a.heap.size:=fun {a way u B} h hz=>by
    rcases h with ⟨_,h2,_⟩ | ⟨_,_,hb⟩
    ·rw [hz] at h2; cases h2
    ·obtain ⟨cells,m1,_⟩:=hb.mem hz
     exact (Array.getElem?_eq_some_iff.1 m1).1
   have keep:∀ {i:Nat} {way:List YTrip} {u:Value},i<os.length→i≠j→WayB wr way u (W i)→WayB _ way u (W i):=fun {i way u} hi hne h=>
    h.keep fun hz=>X5.oth _ (wlt h hz) (HG.out i hi hz) fun hh=>hne (HD.out i j hi hlt hz hh.1 hh.2)
   refine ⟨⟨j+1,by omega,by go_num,by rw [HQ.out]; congr 1; omega,⟨(HMI.out.mx.trans X5 fun x hx=>⟨j,hlt,hx.1,hx.2⟩).weak HST.out,fun i hi o hio=>?_,fun i hi o hio=>?_⟩⟩,by simp [intOf]; omega⟩
   ·rcases Nat.lt_or_ge i j with h | h
    ·exact keep (hlen hio) (by omega) (HMI.out.done i h o hio)
    ·obtain rfl:i=j:=by omega
     have e:ord=o:=by have:=HO.out; rw [hio] at this; exact (Option.some.inj this).symm
     subst e
     rw [hnn,HU.out]
     have h3:=HW3.out
     rw [show q+1+1+1+1+1+1=nOr k (os.take i)+6 by rw [HE.out]; omega] at h3
     refine h3.keep fun hz=>?_
     have hne:=HG.out i hlt hz
     rw [heap_setCell_other _ _ _ _ hne,heap_setCell_other _ _ _ _ hne]
     refine (HB4.out.block _ (by simp only [World.size_setCell]; exact wlt h3 hz)).trans ?_
     rw [heap_setCell_other _ _ _ _ hne,heap_setCell_other _ _ _ _ hne]
   ·exact keep (hlen hio) (by omega) (HMI.out.rest i (by omega) o hio)
  ·obtain rfl:j=os.length:=by omega
   have HT:=Lib.hid (show nOr k (os.take os.length)=nOr k os by rw [List.take_length])
   go_wp2_with fail
   go_ret
   exact ⟨reti (by rw [HT.out]),hM⟩
set_option maxHeartbeats 4000000
def cOU (o:YOrder) (u:Value):List PV:=[vs o.from_,vs o.to_,vi o.service,vi o.weight,vi o.at_,vi o.due,.v u,vi o.gone,vi o.state,vs o.place,vi o.ended]
def ordU (os:List YOrder) (us:Nat→Value):List (List PV):=os.mapIdx fun j o=>cOU o (us j)
theorem Zhb {os:List YOrder} {us:Nat→Value} {i:Nat} {cs:List PV} (h:(ordU os us)[i]?=some cs):∃ o,os[i]?=some o∧cs=cOU o (us i):=by
 unfold ordU at h
 rw [List.getElem?_mapIdx] at h
 obtain ⟨o,h1,rfl⟩:=Option.map_eq_some_iff.1 h
 exact ⟨o,h1,rfl⟩
theorem ZkH {os:List YOrder} {us:Nat→Value} {i:Nat} {o:YOrder} (h:os[i]?=some o):(ordU os us)[i]?=some (cOU o (us i)):=by
 unfold ordU
 rw [List.getElem?_mapIdx,h]; rfl
theorem Zgf {os:List YOrder} {us:Nat→Value}:(ordU os us).length=os.length:=by simp [ordU]
theorem ZjH (A:Option Addr) (c:Nat) (k:Int) (w:World):Calls Tryz.prog 91 #[.slice A 0 c,.int .i64 k] w fun e w'=>e=.returned (.int .i64 k)∧w'=w:=by
 go_enter Tryz.func91,Tryz.ntmps91
 go_wp2
 go_loopw [5,1] (fun i kk wr=>i=.int .i64 0∧kk=.int .i64 k∧wr=w) (fun _ _ _=>0)
 case atStart=>exact ⟨rfl,rfl,rfl⟩
 case round=>
  obtain ⟨rfl,rfl,rfl⟩:=hrel
  go_wp2
  go_ret
  exact ⟨rfl,rfl⟩
abbrev RB (w:World) (T:TypeId) (k:Nat) (es:List (List PV)) (B:Blk):Prop:=Zaz w E00 ⟨.of T,k,es⟩ B
theorem RB.lt {w:World} {T:TypeId} {k:Nat} {es:List (List PV)} {B:Blk} (h:RB w T k es B) (hz:B.z=false):B.b<w.heap.size:=by
 obtain ⟨cells,m1,_⟩:=h.mem hz
 exact (Array.getElem?_eq_some_iff.1 m1).1
theorem WayB.lt {a:World} {way:List YTrip} {u:Value} {B:Blk} (h:WayB a way u B) (hz:B.z=false):B.b<a.heap.size:=by
 rcases h with ⟨_,h2,_⟩ | ⟨_,_,hb⟩
 ·rw [hz] at h2; cases h2
 ·obtain ⟨cells,m1,_⟩:=hb.mem hz
  exact (Array.getElem?_eq_some_iff.1 m1).1
theorem ZnT {q:Int} {n:Nat} {u:Value} {j:Nat} {p:PV} (h:(cOU (mOr q n) u)[j]?=some p) (h6:j≠6):∃ v,p=.v v∧Zqz q n j=some v∧v.oneCell'=true:=by
 match j,h with
 | 0,h=>obtain rfl:=Option.some.inj h; exact ⟨_,rfl,rfl,rfl⟩
 | 1,h=>obtain rfl:=Option.some.inj h; exact ⟨_,rfl,rfl,rfl⟩
 | 2,h=>obtain rfl:=Option.some.inj h; exact ⟨_,rfl,by show some (Value.int .i64 (q+1+1))=some (.int .i64 (q+2)); congr 2; omega,rfl⟩
 | 3,h=>obtain rfl:=Option.some.inj h; exact ⟨_,rfl,by show some (Value.int .i64 (q+1+1+1))=some (.int .i64 (q+3)); congr 2; omega,rfl⟩
 | 4,h=>obtain rfl:=Option.some.inj h; exact ⟨_,rfl,by show some (Value.int .i64 (q+1+1+1+1))=some (.int .i64 (q+4)); congr 2; omega,rfl⟩
 | 5,h=>obtain rfl:=Option.some.inj h; exact ⟨_,rfl,by show some (Value.int .i64 (q+1+1+1+1+1))=some (.int .i64 (q+5)); congr 2; omega,rfl⟩
 | 6,h=>exact absurd rfl h6
 | 7,h=>obtain rfl:=Option.some.inj h; exact ⟨_,rfl,by show some (Value.int .i64 (q+1+1+1+1+1+1+2*n))=some (.int .i64 (q+6+2*n)); congr 2; omega,rfl⟩
 | 8,h=>obtain rfl:=Option.some.inj h; exact ⟨_,rfl,by show some (Value.int .i64 (q+1+1+1+1+1+1+2*n+1))=some (.int .i64 (q+7+2*n)); congr 2; omega,rfl⟩
 | 9,h=>obtain rfl:=Option.some.inj h; exact ⟨_,rfl,by show some (Value.string (ZaK (q+1+1+1+1+1+1+2*n+1+1)))=some (.string (ZaK (q+8+2*n))); congr 3; omega,rfl⟩
 | 10,h=>obtain rfl:=Option.some.inj h; exact ⟨_,rfl,by show some (Value.int .i64 (q+1+1+1+1+1+1+2*n+1+1+1))=some (.int .i64 (q+9+2*n)); congr 2; omega,rfl⟩
 | j+11,h=>simp [cOU] at h
theorem Zqt {w:World} {os:List YOrder} {us:Nat→Value} {W:Nat→Blk} {B:Blk} {k:Int} (hB:RB w 62 11 (ordU os us) B) (hW:∀ j o,os[j]?=some o→WayB w o.way (us j) (W j))
 (hn:os.length≤1048576) (hw:∀ o∈os,o.way.length≤1048576) (h0:1≤k) (h1:nOr k os≤1000000000)
 (hg:∀ j,j<os.length→(W j).z=false→B.z=false→(W j).b≠B.b) (hd:∀ i j,i<os.length→j<os.length→(W i).z=false→(W j).z=false→(W i).b=(W j).b→i=j):
 Calls Tryz.prog 91 #[B.sv,.int .i64 k] w fun e w'=>e=.returned (.int .i64 (nOr k os))∧RB w' 62 11 (ordU (mkOr k os) us) B∧(∀ j o,(mkOr k os)[j]?=some o→WayB w' o.way (us j) (W j))∧UpO (fun b=>(B.z=false∧b=B.b)∨QW os W b) w w':=by
 cases hz:B.z with
 | true=>
  have h0':=hB.nil hz
  have:os=[]:=by
   have:=congrArg List.length h0'
   rw [Zgf] at this
   exact List.length_eq_zero_iff.1 this
  subst this
  refine (by simpa [Blk.sv,hz] using ZjH none 0 k w:Calls Tryz.prog 91 #[B.sv,.int .i64 k] w fun e w'=>e=.returned (.int .i64 k)∧w'=w).mono ?_
  rintro e w' ⟨rfl,rfl⟩
  exact ⟨rfl,hB,fun j o h=>by simp [mkOr] at h,UpO.refl _ _⟩
 | false=>
  obtain ⟨cells,m1,m2,m3⟩:=hB.mem hz
  have hk:B.k=11:=hB.k
  have hnn:B.n=os.length:=hB.n.trans Zgf
  have hT:B.T=62:=hB.T
  rw [hT] at m1
  rw [hk] at m2 m3
  have hnc:=hB.nc
  have hs:MIq os us W k B.b cells.size w 0 w:=by
   refine ⟨MX.start ⟨cells,m1,rfl,fun o v ho=>?_⟩,fun i hi=>absurd hi (Nat.not_lt_zero i),fun i _ o ho=>hW i o ho⟩
   unfold PP at ho
   split at ho
   ·rename_i hlt
    split at ho
    ·rename_i h6
     have hx:os[o / 11]?=some os[o / 11]:=List.getElem?_eq_getElem hlt
     obtain ⟨x,x1,x2,x3⟩:=m3 _ _ 6 (.v (us (o / 11))) (ZkH hx) rfl
     obtain ⟨rfl,_⟩:=x3.v_inv
     rw [show o / 11*11+6=o by omega] at x1
     rw [x1]; exact ho
    ·rw [if_neg (Nat.not_lt_zero _)] at ho; cases ho
   ·cases ho
  have hsv:B.sv=.slice (some ⟨B.b,0,none⟩) os.length B.c:=by simp [Blk.sv,hz,hnn]
  rw [hsv]
  refine (ZjI os us W k B.b B.c cells.size (by rw [m2]; exact Nat.mul_le_mul_right _ (by omega)) w hs hn hw h0 h1 (fun j hj hzj=>hg j hj hzj hz) hd).mono ?_
  rintro e w' ⟨rfl,hM⟩
  have hway:∀ j o,(mkOr k os)[j]?=some o→WayB w' o.way (us j) (W j):=fun j o ho=>by
   rw [ZiQ] at ho
   obtain ⟨x,h2,rfl⟩:=Option.map_eq_some_iff.1 ho
   exact hM.done j (List.getElem?_eq_some_iff.1 h2).1 x h2
  refine ⟨rfl,⟨hk,by rw [hnn,Zgf,Zha],hT,hB.pos,hB.nc,hB.cm,fun i cs hi=>?_,fun h=>(by rw [hz] at h; cases h),fun _=>?_,fun _ h=>by cases h⟩,hway,⟨hM.mx.os,hM.mx.tape,hM.mx.output,hM.mx.size,fun b hb hn=>hM.mx.oth b hb (fun e=>hn (.inl ⟨rfl,e⟩)) fun hq=>hn (.inr hq)⟩⟩
  ·obtain ⟨o,_,rfl⟩:=Zhb hi
   rw [hk]; rfl
  ·obtain ⟨c,c1,c2,c3⟩:=hM.mx.row
   refine ⟨c,by rw [hT]; exact c1,by rw [c2,m2,hk],fun i cs j p hi hj=>?_⟩
   obtain ⟨o,ho,rfl⟩:=Zhb hi
   rw [ZiQ] at ho
   obtain ⟨x,h2,rfl⟩:=Option.map_eq_some_iff.1 ho
   have hil:i<os.length:=(List.getElem?_eq_some_iff.1 h2).1
   have hjl:j<11:=by have:=(List.getElem?_eq_some_iff.1 hj).1; simpa [cOU] using this
   rw [hk]
   by_cases h6:j=6
   ·subst h6
    obtain rfl:=Option.some.inj hj
    obtain ⟨A,cc,hu⟩:=(hM.done i hil x h2).one
    refine ⟨us i,c3 _ _ ?_,by rw [hu]; rfl,.c (.v _ (by rw [hu]; rfl))⟩
    unfold PP
    rw [show (i*11+6) / 11=i by omega,if_pos hil,if_pos (by omega)]
   ·obtain ⟨v,rfl,hv,h1c⟩:=ZnT hj h6
    refine ⟨v,c3 _ _ ?_,h1c,.c (.v _ h1c)⟩
    unfold PP
    rw [show (i*11+j) / 11=i by omega,if_pos hil,if_neg (by omega),if_pos hil,Zl8 h2,show (i*11+j) % 11=j by omega]
    exact hv
theorem RB.keepO {w w':World} {T:TypeId} {k:Nat} {es:List (List PV)} {B:Blk} {O:Nat→Prop} (h:RB w T k es B) (hu:UpO O w w') (hO:B.z=false→¬ O B.b):RB w' T k es B:=h.keep0 fun hz=>hu.block _ (RB.lt h hz) (hO hz)
theorem WayB.keepO {w w':World} {way:List YTrip} {u:Value} {B:Blk} {O:Nat→Prop} (h:WayB w way u B) (hu:UpO O w w') (hO:B.z=false→¬ O B.b):WayB w' way u B:=h.keep fun hz=>hu.block _ (h.lt hz) (hO hz)
theorem Zy {O:Nat→Prop} {a b:World} {x o:Nat} {v:Value} (hu:UpO O a b) (h:a.cell? ⟨x,o,none⟩=some v) (hO:¬ O x):b.cell? ⟨x,o,none⟩=some v:=by
 have hlt:=World.block_lt_of_cell? _ _ h
 rw [Zbt (hu.block x hlt hO)]; exact h
theorem Zg5 {cs:List PV} {l:List YLeg} (h:cs∈l.map cLeg) {p:PV} (hp:p∈cs):∃ v,p=.v v:=by
 obtain ⟨x,_,rfl⟩:=List.mem_map.1 h
 simp only [cLeg,List.mem_cons,List.not_mem_nil,or_false] at hp
 repeat (first | (rcases hp with rfl | hp; exact ⟨_,rfl⟩) | (subst hp; exact ⟨_,rfl⟩))
theorem ZoZ {w:World} {l:List YLeg} {B:Blk} {k:Int} (hB:RB w 67 6 (l.map cLeg) B) (hl:l.length≤1048576) (h0:1≤k) (h1:k≤1000000000):
 Calls Tryz.prog 175 #[B.sv,.int .i64 k] w fun e w'=>e=.returned (.int .i64 (k+6*l.length))∧RB w' 67 6 ((mkLg k l.length).map cLeg) B∧UpO (fun b=>B.z=false∧b=B.b) w w':=by
 have hm:=ZkC l k hl h0 h1
 have hC:=CT.ok (P:=Tryz.prog) hm
 simp only [CT.f,CT.args,CT.m0,CT.res,CT.mem] at hC
 exact hC.mark (fun cs hcs p hp=>Zg5 hcs hp) hB tab0
theorem ZeT {cs:List PV} {l:List Int} (h:cs∈l.map cInt) {p:PV} (hp:p∈cs):∃ v,p=.v v:=by
 obtain ⟨x,_,rfl⟩:=List.mem_map.1 h
 simp only [cInt,List.mem_cons,List.not_mem_nil,or_false] at hp
 repeat (first | (rcases hp with rfl | hp; exact ⟨_,rfl⟩) | (subst hp; exact ⟨_,rfl⟩))
theorem ZlG {w:World} {l:List Int} {B:Blk} {k:Int} (hB:RB w 3 1 (l.map cInt) B) (hl:l.length≤1048576) (h0:1≤k) (h1:k≤1000000000):
 Calls Tryz.prog 95 #[B.sv,.int .i64 k] w fun e w'=>e=.returned (.int .i64 (k+l.length))∧RB w' 3 1 ((mkI k l.length).map cInt) B∧UpO (fun b=>B.z=false∧b=B.b) w w':=by
 have hm:=ZkB l k hl h0 h1
 have hC:=CT.ok (P:=Tryz.prog) hm
 simp only [CT.f,CT.args,CT.m0,CT.res,CT.mem] at hC
 exact hC.mark (fun cs hcs p hp=>ZeT hcs hp) hB tab0
theorem ZeD {cs:List PV} {l:List YBooking} (h:cs∈l.map cBooking) {p:PV} (hp:p∈cs):∃ v,p=.v v:=by
 obtain ⟨x,_,rfl⟩:=List.mem_map.1 h
 simp only [cBooking,List.mem_cons,List.not_mem_nil,or_false] at hp
 repeat (first | (rcases hp with rfl | hp; exact ⟨_,rfl⟩) | (subst hp; exact ⟨_,rfl⟩))
theorem ZjG {w:World} {l:List YBooking} {B:Blk} {k:Int} (hB:RB w 135 4 (l.map cBooking) B) (hl:l.length≤1048576) (h0:1≤k) (h1:k≤1000000000):
 Calls Tryz.prog 92 #[B.sv,.int .i64 k] w fun e w'=>e=.returned (.int .i64 (k+4*l.length))∧RB w' 135 4 ((mkBk k l.length).map cBooking) B∧UpO (fun b=>B.z=false∧b=B.b) w w':=by
 have hm:=ZhH l k hl h0 h1
 have hC:=CT.ok (P:=Tryz.prog) hm
 simp only [CT.f,CT.args,CT.m0,CT.res,CT.mem] at hC
 exact hC.mark (fun cs hcs p hp=>ZeD hcs hp) hB tab0
theorem Ze9 {cs:List PV} {l:List YTrip} (h:cs∈l.map cTrip) {p:PV} (hp:p∈cs):∃ v,p=.v v:=by
 obtain ⟨x,_,rfl⟩:=List.mem_map.1 h
 simp only [cTrip,List.mem_cons,List.not_mem_nil,or_false] at hp
 repeat (first | (rcases hp with rfl | hp; exact ⟨_,rfl⟩) | (subst hp; exact ⟨_,rfl⟩))
theorem ZnG {w:World} {l:List YTrip} {B:Blk} {k:Int} (hB:RB w 55 2 (l.map cTrip) B) (hl:l.length≤1048576) (h0:1≤k) (h1:k≤1000000000):
 Calls Tryz.prog 93 #[B.sv,.int .i64 k] w fun e w'=>e=.returned (.int .i64 (k+2*l.length))∧RB w' 55 2 ((mkTr k l.length).map cTrip) B∧UpO (fun b=>B.z=false∧b=B.b) w w':=by
 have hm:=ZgO l k hl h0 h1
 have hC:=CT.ok (P:=Tryz.prog) hm
 simp only [CT.f,CT.args,CT.m0,CT.res,CT.mem] at hC
 exact hC.mark (fun cs hcs p hp=>Ze9 hcs hp) hB tab0
theorem Zf2 {cs:List PV} {l:List YScan} (h:cs∈l.map cScan) {p:PV} (hp:p∈cs):∃ v,p=.v v:=by
 obtain ⟨x,_,rfl⟩:=List.mem_map.1 h
 simp only [cScan,List.mem_cons,List.not_mem_nil,or_false] at hp
 repeat (first | (rcases hp with rfl | hp; exact ⟨_,rfl⟩) | (subst hp; exact ⟨_,rfl⟩))
theorem ZnF {w:World} {l:List YScan} {B:Blk} {k:Int} (hB:RB w 130 6 (l.map cScan) B) (hl:l.length≤1048576) (h0:1≤k) (h1:k≤1000000000):
 Calls Tryz.prog 94 #[B.sv,.int .i64 k] w fun e w'=>e=.returned (.int .i64 (k+6*l.length))∧RB w' 130 6 ((mkSc k l.length).map cScan) B∧UpO (fun b=>B.z=false∧b=B.b) w w':=by
 have hm:=ZjJ l k hl h0 h1
 have hC:=CT.ok (P:=Tryz.prog) hm
 simp only [CT.f,CT.args,CT.m0,CT.res,CT.mem] at hC
 exact hC.mark (fun cs hcs p hp=>Zf2 hcs hp) hB tab0
structure GW (w:World) (g:YWorld) (us:Nat→Value) (W:Nat→Blk) (B0 B1 B3 B4 B5 B7 B8:Blk):Prop where
 r0:RB w 67 6 (g.network.legs.map cLeg) B0
 r1:RB w 3 1 (g.network.off.map cInt) B1
 r3:RB w 62 11 (ordU g.orders us) B3
 r4:RB w 135 4 (g.bookings.map cBooking) B4
 r5:RB w 55 2 (g.closed.map cTrip) B5
 r7:RB w 130 6 (g.scans.map cScan) B7
 r8:RB w 3 1 (g.skip.map cInt) B8
 way:∀ j o,g.orders[j]?=some o→WayB w o.way (us j) (W j)
def neB (a b:Blk):Prop:=a.z=false→b.z=false→a.b≠b.b
structure GD (n:Nat) (W:Nat→Blk) (B0 B1 B3 B4 B5 B7 B8:Blk):Prop where
 rows:List.Pairwise neB [B0,B1,B3,B4,B5,B7,B8]
 wr:∀ j,j<n→∀ B∈[B0,B1,B3,B4,B5,B7,B8],neB (W j) B
 ww:∀ i j,i<n→j<n→(W i).z=false→(W j).z=false→(W i).b=(W j).b→i=j
def GB (os:List YOrder) (W:Nat→Blk) (B0 B1 B3 B4 B5 B7 B8:Blk) (b:Nat):Prop:=(∃ B∈[B0,B1,B3,B4,B5,B7,B8],B.z=false∧b=B.b)∨QW os W b
theorem GW.lt {w:World} {g:YWorld} {us:Nat→Value} {W:Nat→Blk} {B0 B1 B3 B4 B5 B7 B8:Blk} (h:GW w g us W B0 B1 B3 B4 B5 B7 B8) {b:Nat} (hb:GB g.orders W B0 B1 B3 B4 B5 B7 B8 b):b<w.heap.size:=by
 rcases hb with ⟨B,hB,hz,rfl⟩ | ⟨j,hj,hz,rfl⟩
 ·simp only [List.mem_cons,List.not_mem_nil,or_false] at hB
  rcases hB with rfl | rfl | rfl | rfl | rfl | rfl | rfl
  ·exact RB.lt h.r0 hz
  ·exact RB.lt h.r1 hz
  ·exact RB.lt h.r3 hz
  ·exact RB.lt h.r4 hz
  ·exact RB.lt h.r5 hz
  ·exact RB.lt h.r7 hz
  ·exact RB.lt h.r8 hz
 ·exact (h.way j _ (List.getElem?_eq_getElem hj)).lt hz
theorem GW.keepO {w w':World} {g:YWorld} {us:Nat→Value} {W:Nat→Blk} {B0 B1 B3 B4 B5 B7 B8:Blk} {O:Nat→Prop} (h:GW w g us W B0 B1 B3 B4 B5 B7 B8) (hu:UpO O w w') (hO:∀ b,GB g.orders W B0 B1 B3 B4 B5 B7 B8 b→¬ O b):GW w' g us W B0 B1 B3 B4 B5 B7 B8:=
 ⟨h.r0.keepO hu fun hz=>hO _ (.inl ⟨B0,by simp,hz,rfl⟩),h.r1.keepO hu fun hz=>hO _ (.inl ⟨B1,by simp,hz,rfl⟩),h.r3.keepO hu fun hz=>hO _ (.inl ⟨B3,by simp,hz,rfl⟩),h.r4.keepO hu fun hz=>hO _ (.inl ⟨B4,by simp,hz,rfl⟩),h.r5.keepO hu fun hz=>hO _ (.inl ⟨B5,by simp,hz,rfl⟩),h.r7.keepO hu fun hz=>hO _ (.inl ⟨B7,by simp,hz,rfl⟩),h.r8.keepO hu fun hz=>hO _ (.inl ⟨B8,by simp,hz,rfl⟩),fun j o ho=>(h.way j o ho).keepO hu fun hz=>hO _ (.inr ⟨j,(List.getElem?_eq_some_iff.1 ho).1,hz,rfl⟩)⟩
theorem UpO.of {w w':World} (h:Up w w'):UpO (fun _=>False) w w':=⟨h.os,h.tape,h.output,h.size,fun b hb _=>h.block b hb⟩
theorem UpO.more {O O':Nat→Prop} {w w':World} (h:UpO O w w') (hO:∀ b,O b→O' b):UpO O' w w':=⟨h.os,h.tape,h.output,h.size,fun b hb hn=>h.block b hb fun h'=>hn (hO b h')⟩
theorem Zk9 (w:World) (o:Obj):Up w (w.alloc o):=by (repeat (first | exact Up.rfl' _ | (refine Up.al _ ?_) | (refine Up.dr _ ?_) | (refine Up.dr1 ?_) | (refine Up.sc ?_ (by first | exact Nat.le_refl _ | (simp; done) | omega) _) | (refine Up.step (by assumption) ?_)))
theorem Zeo (w:World) (cs:Array Value) (T:TypeId) {j:Nat} {v:Value} (h:cs[j]?=some v):(w.alloc (.cells cs T)).cell? ⟨w.heap.size,j,none⟩=some v:=by
 rw [cell_of_row _ _ j cs T (0,0) (heap_alloc_new w _)]; exact h
theorem ZiO (v0 v1 v2:Value) {B0 B1:Blk} (e0:v0=B0.sv) (e1:v1=B1.sv) (n:YNetwork) (k:Int) (w:World) (r0:RB w 67 6 (n.legs.map cLeg) B0) (r1:RB w 3 1 (n.off.map cInt) B1) (hne:neB B0 B1) (hl:n.legs.length≤1048576) (ho:n.off.length≤1048576) (h0:1≤k) (h1:k≤900000000):
 Calls Tryz.prog 90 #[.agg #[v0,v1,v2],.int .i64 k] w fun e w'=>e=.returned (.int .i64 (k+6*(n.legs.length:Int)+(n.off.length:Int)))∧RB w' 67 6 ((mkLg k n.legs.length).map cLeg) B0∧RB w' 3 1 ((mkI (k+6*(n.legs.length:Int)) n.off.length).map cInt) B1∧UpO (fun b=>(B0.z=false∧b=B0.b)∨(B1.z=false∧b=B1.b)) w w':=by
 have u0:=UpO.of (Zk9 w (.cells #[v0,v1,v2] 35))
 have c0:=ZoZ (r0.keepO u0 fun _ h=>h) hl h0 (k:=k) (by omega)
 have lt0:=fun hz=>RB.lt r0 hz
 have lt1:=fun hz=>RB.lt r1 hz
 have R1:=r1.keepO u0 fun _ h=>h
 have d1:=Zeo w #[v0,v1,v2] 35 (j:=1) rfl
 rw [← e0] at c0
 have C0:=Lib.hid c0
 have D1:=Lib.hid d1
 have U0:=Lib.hid u0
 have HR1:=Lib.hid R1
 have L0:=Lib.hid lt0
 have L1:=Lib.hid lt1
 have HN:=Lib.hid hne
 have E1:=Lib.hid e1
 clear c0 d1 u0 R1 lt0 lt1 r0 r1 hne e0 e1
 go_enter Tryz.func90,Tryz.ntmps90
 go_wp2_with fail
 refine C0.out.mono ?_
 rintro e w1 ⟨rfl,q0,q1⟩
 have c1:w1.cell? ⟨w.heap.size,1,none⟩=some v1:=Zy q1 D1.out fun h=>by have:=L0.out h.1; omega
 have HQ0:=Lib.hid q0
 have HQ1:=Lib.hid q1
 clear q0 q1
 have R1':=HR1.out.keepO HQ1.out fun hz h=>HN.out h.1 hz h.2.symm
 have c2:=ZlG R1' ho (k:=k+6*(n.legs.length:Int)) (by omega) (by omega)
 rw [← E1.out] at c2
 have C2:=Lib.hid c2
 clear c2 R1'
 go_wp2_with fail
 refine C2.out.mono ?_
 rintro e w2 ⟨rfl,p0,p1⟩
 have P0:=Lib.hid p0
 have P1:=Lib.hid p1
 clear p0 p1 c1
 go_wp2_with fail
 go_ret
 exact ⟨rfl,HQ0.out.keepO P1.out fun hz h=>HN.out hz h.1 h.2,P0.out,((U0.out.more fun _ h=>h.elim).trans HQ1.out fun b hb h=>.inl h).trans P1.out fun b hb h=>.inr h⟩
theorem ZkF (v0 v1 v2 v3 v4 v5 v6 v7 v8 v9:Value) {B0 B1 B3 B4 B5 B7 B8:Blk} (e0:v0=B0.sv) (e1:v1=B1.sv) (e3:v3=B3.sv) (e4:v4=B4.sv) (e5:v5=B5.sv) (e7:v7=B7.sv) (e8:v8=B8.sv) {us:Nat→Value} {W:Nat→Blk} (g:YWorld) (k:Int) (w:World)
 (h:GW w g us W B0 B1 B3 B4 B5 B7 B8) (hd:GD g.orders.length W B0 B1 B3 B4 B5 B7 B8) (hf:Zh4 g k):
 Calls Tryz.prog 20 #[.agg #[v0,v1,v2,v3,v4,v5,v6,v7,v8,v9],.int .i64 k] w fun e w'=>e=.returned (.int .i64 (k6W g k))∧GW w' (mkW g k) us W B0 B1 B3 B4 B5 B7 B8∧UpO (GB g.orders W B0 B1 B3 B4 B5 B7 B8) w w':=by
 obtain ⟨a1,a2,a3,a4,a5,a6,a7⟩:=hf.ks
 have ht:=hf.top
 have hlow:=hf.low
 obtain ⟨hdr,hwr,hww⟩:=hd
 simp only [List.pairwise_cons,List.mem_cons,List.not_mem_nil,or_false,forall_eq_or_imp,forall_eq,List.Pairwise.nil,and_true,false_implies,implies_true] at hdr
 obtain ⟨⟨n01,n03,n04,n05,n07,n08⟩,⟨n13,n14,n15,n17,n18⟩,⟨n34,n35,n37,n38⟩,⟨n45,n47,n48⟩,⟨n57,n58⟩,n78⟩:=hdr
 have hbx:∀ b,GB g.orders W B0 B1 B3 B4 B5 B7 B8 b→b<w.heap.size:=fun b hb=>h.lt hb
 have i0:∀ b,B0.z=false∧b=B0.b→GB g.orders W B0 B1 B3 B4 B5 B7 B8 b:=fun b hb=>.inl ⟨B0,by simp,hb⟩
 have i1:∀ b,B1.z=false∧b=B1.b→GB g.orders W B0 B1 B3 B4 B5 B7 B8 b:=fun b hb=>.inl ⟨B1,by simp,hb⟩
 have i3:∀ b,B3.z=false∧b=B3.b→GB g.orders W B0 B1 B3 B4 B5 B7 B8 b:=fun b hb=>.inl ⟨B3,by simp,hb⟩
 have i4:∀ b,B4.z=false∧b=B4.b→GB g.orders W B0 B1 B3 B4 B5 B7 B8 b:=fun b hb=>.inl ⟨B4,by simp,hb⟩
 have i5:∀ b,B5.z=false∧b=B5.b→GB g.orders W B0 B1 B3 B4 B5 B7 B8 b:=fun b hb=>.inl ⟨B5,by simp,hb⟩
 have i7:∀ b,B7.z=false∧b=B7.b→GB g.orders W B0 B1 B3 B4 B5 B7 B8 b:=fun b hb=>.inl ⟨B7,by simp,hb⟩
 have i8:∀ b,B8.z=false∧b=B8.b→GB g.orders W B0 B1 B3 B4 B5 B7 B8 b:=fun b hb=>.inl ⟨B8,by simp,hb⟩
 have u0:=UpO.of (Zk9 w (.cells #[v0,v1,v2,v3,v4,v5,v6,v7,v8,v9] 41))
 have h0:=h.keepO u0 fun _ _ h=>h
 have f3:=Zeo w #[v0,v1,v2,v3,v4,v5,v6,v7,v8,v9] 41 (j:=3) rfl
 have f4:=Zeo w #[v0,v1,v2,v3,v4,v5,v6,v7,v8,v9] 41 (j:=4) rfl
 have f5:=Zeo w #[v0,v1,v2,v3,v4,v5,v6,v7,v8,v9] 41 (j:=5) rfl
 have f7:=Zeo w #[v0,v1,v2,v3,v4,v5,v6,v7,v8,v9] 41 (j:=7) rfl
 have f8:=Zeo w #[v0,v1,v2,v3,v4,v5,v6,v7,v8,v9] 41 (j:=8) rfl
 have hnb:∀ b,GB g.orders W B0 B1 B3 B4 B5 B7 B8 b→b≠w.heap.size:=fun b hb e=>by have:=hbx b hb; omega
 -- the seven calls,each on what the one before it left
 have c1:=ZiO v0 v1 v2 e0 e1 g.network k _ h0.r0 h0.r1 n01 hf.legs hf.off hlow (by omega)
 have C1:=Lib.hid c1
 have H0:=Lib.hid h0
 have F3:=Lib.hid f3
 have F4:=Lib.hid f4
 have F5:=Lib.hid f5
 have F7:=Lib.hid f7
 have F8:=Lib.hid f8
 have U0:=Lib.hid u0
 have HB:=Lib.hid hnb
 have HWR:=Lib.hid hwr
 have HWW:=Lib.hid hww
 have HF:=Lib.hid hf
 have E3:=Lib.hid e3
 have E4:=Lib.hid e4
 have E5:=Lib.hid e5
 have E7:=Lib.hid e7
 have E8:=Lib.hid e8
 have I3:=Lib.hid (And.intro i0 (And.intro i1 (And.intro i3 (And.intro i4 (And.intro i5 (And.intro i7 i8))))))
 clear c1 h0 f3 f4 f5 f7 f8 u0 hnb hwr hww hf e0 e1 e3 e4 e5 e7 e8 i0 i1 i3 i4 i5 i7 i8 h hbx
 go_enter Tryz.func20,Tryz.ntmps20
 go_wp2_with fail
 refine C1.out.mono ?_
 rintro e w1 ⟨rfl,g0,g1,q1⟩
 have no1:∀ B:Blk,neB B0 B→neB B1 B→B.z=false→¬ ((B0.z=false∧B.b=B0.b)∨(B1.z=false∧B.b=B1.b)):=fun B n0 n1 hz h=>by
  rcases h with h | h
  ·exact n0 h.1 hz h.2.symm
  ·exact n1 h.1 hz h.2.symm
 have nb1:¬ ((B0.z=false∧w.heap.size=B0.b)∨(B1.z=false∧w.heap.size=B1.b)):=fun h=>by rcases h with h | h; exact HB.out _ (I3.out.1 _ h) rfl; exact HB.out _ (I3.out.2.1 _ h) rfl
 have d3:=Zy q1 F3.out nb1
 have d4:=Zy q1 F4.out nb1
 have d5:=Zy q1 F5.out nb1
 have d7:=Zy q1 F7.out nb1
 have d8:=Zy q1 F8.out nb1
 have t1:=(U0.out.more (O':=GB g.orders W B0 B1 B3 B4 B5 B7 B8) (fun _ h=>h.elim)).trans (q1.more (O':=GB g.orders W B0 B1 B3 B4 B5 B7 B8) fun b h=>by rcases h with h | h; exact I3.out.1 _ h; exact I3.out.2.1 _ h) fun _ _ h=>h
 have r3:=H0.out.r3.keepO q1 (no1 B3 n03 n13)
 have r4:=H0.out.r4.keepO q1 (no1 B4 n04 n14)
 have r5:=H0.out.r5.keepO q1 (no1 B5 n05 n15)
 have r7:=H0.out.r7.keepO q1 (no1 B7 n07 n17)
 have r8:=H0.out.r8.keepO q1 (no1 B8 n08 n18)
 have rw_:∀ j o,g.orders[j]?=some o→WayB w1 o.way (us j) (W j):=fun j o ho=>(H0.out.way j o ho).keepO q1 fun hz h=>by
  have hj:=(List.getElem?_eq_some_iff.1 ho).1
  rcases h with h | h
  ·exact HWR.out j hj B0 (by simp) hz h.1 h.2
  ·exact HWR.out j hj B1 (by simp) hz h.1 h.2
 have c2:=Zqt (k:=k1W g k) r3 rw_ HF.out.orders HF.out.way a1 (by unfold k2W at a3; omega) (fun j hj hz hz3=>HWR.out j hj B3 (by simp) hz hz3) HWW.out
 rw [← E3.out] at c2
 have C2:=Lib.hid c2
 have G0:=Lib.hid g0
 have G1:=Lib.hid g1
 have R4:=Lib.hid r4
 have R5:=Lib.hid r5
 have R7:=Lib.hid r7
 have R8:=Lib.hid r8
 have T1:=Lib.hid t1
 have D4:=Lib.hid d4
 have D5:=Lib.hid d5
 have D7:=Lib.hid d7
 have D8:=Lib.hid d8
 clear c2 g0 g1 r3 r4 r5 r7 r8 rw_ t1 q1 no1 nb1 d4 d5 d7 d8
 rw [show k+6*(g.network.legs.length:Int)+(g.network.off.length:Int)=k1W g k from rfl]
 go_wp2_with fail
 refine C2.out.mono ?_
 rintro e w2 ⟨rfl,g3,gw,q2⟩
 rw [show nOr (k1W g k) g.orders=k2W g k from rfl]
 have no2:∀ B:Blk,B∈[B0,B1,B3,B4,B5,B7,B8]→neB B3 B→B.z=false→¬ ((B3.z=false∧B.b=B3.b)∨QW g.orders W B.b):=fun B hB n3 hz h=>by
  rcases h with h | ⟨j,hj,hzj,e⟩
  ·exact n3 h.1 hz h.2.symm
  ·exact HWR.out j hj B hB hzj hz e.symm
 have nb2:¬ ((B3.z=false∧w.heap.size=B3.b)∨QW g.orders W w.heap.size):=fun h=>by rcases h with h | h; exact HB.out _ (I3.out.2.2.1 _ h) rfl; exact HB.out _ (.inr h) rfl
 have n30:neB B3 B0:=fun a b e=>n03 b a e.symm
 have n31:neB B3 B1:=fun a b e=>n13 b a e.symm
 have d4:=Zy q2 D4.out nb2
 have d5:=Zy q2 D5.out nb2
 have d7:=Zy q2 D7.out nb2
 have d8:=Zy q2 D8.out nb2
 have t2:=T1.out.trans (q2.more (O':=GB g.orders W B0 B1 B3 B4 B5 B7 B8) fun b h=>by rcases h with h | h; exact I3.out.2.2.1 _ h; exact .inr h) fun _ _ h=>h
 have g0:=G0.out.keepO q2 (no2 B0 (by simp) n30)
 have g1:=G1.out.keepO q2 (no2 B1 (by simp) n31)
 have r4:=R4.out.keepO q2 (no2 B4 (by simp) n34)
 have r5:=R5.out.keepO q2 (no2 B5 (by simp) n35)
 have r7:=R7.out.keepO q2 (no2 B7 (by simp) n37)
 have r8:=R8.out.keepO q2 (no2 B8 (by simp) n38)
 have c3:=ZjG (k:=k2W g k) r4 HF.out.bookings (by omega) (by omega)
 rw [← E4.out] at c3
 have C3:=Lib.hid c3
 have GG:=Lib.hid (And.intro g0 (And.intro g1 (And.intro g3 gw)))
 have RR:=Lib.hid (And.intro r5 (And.intro r7 r8))
 have T2:=Lib.hid t2
 have D5':=Lib.hid d5
 have D7':=Lib.hid d7
 have D8':=Lib.hid d8
 clear c3 g0 g1 g3 gw r4 r5 r7 r8 t2 q2 no2 nb2 d5 d7 d8 d3
 go_wp2_with fail
 refine C3.out.mono ?_
 rintro e w3 ⟨rfl,g4,q3⟩
 rw [show k2W g k+4*(g.bookings.length:Int)=k3W g k from rfl]
 have lenK:∀ {j:Nat} {o:YOrder},(mkOr (k1W g k) g.orders)[j]?=some o→j<g.orders.length:=fun h=>by have:=(List.getElem?_eq_some_iff.1 h).1; rwa [Zha] at this
 have hj4:neB B4 B0∧neB B4 B1∧neB B4 B3:=⟨fun a b e=>n04 b a e.symm,fun a b e=>n14 b a e.symm,fun a b e=>n34 b a e.symm⟩
 have no3:∀ B:Blk,neB B4 B→B.z=false→¬ (B4.z=false∧B.b=B4.b):=fun B n hz h=>n h.1 hz h.2.symm
 have nb3:¬ (B4.z=false∧w.heap.size=B4.b):=fun h=>HB.out _ (I3.out.2.2.2.1 _ h) rfl
 have d5:=Zy q3 D5'.out nb3
 have d7:=Zy q3 D7'.out nb3
 have d8:=Zy q3 D8'.out nb3
 have t3:=T2.out.trans (q3.more (O':=GB g.orders W B0 B1 B3 B4 B5 B7 B8) fun b h=>I3.out.2.2.2.1 _ h) fun _ _ h=>h
 have g0:=GG.out.1.keepO q3 (no3 B0 hj4.1)
 have g1:=GG.out.2.1.keepO q3 (no3 B1 hj4.2.1)
 have g3:=GG.out.2.2.1.keepO q3 (no3 B3 hj4.2.2)
 have gw:∀ j o,(mkOr (k1W g k) g.orders)[j]?=some o→WayB w3 o.way (us j) (W j):=fun j o ho=>(GG.out.2.2.2 j o ho).keepO q3 fun hz h=>HWR.out j (lenK ho) B4 (by simp) hz h.1 h.2
 have r5:=RR.out.1.keepO q3 (no3 B5 n45)
 have r7:=RR.out.2.1.keepO q3 (no3 B7 n47)
 have r8:=RR.out.2.2.keepO q3 (no3 B8 n48)
 have c4:=ZnG (k:=k3W g k) r5 HF.out.closed (by omega) (by omega)
 rw [← E5.out] at c4
 have C4:=Lib.hid c4
 have G4:=Lib.hid (And.intro g0 (And.intro g1 (And.intro g3 (And.intro gw g4))))
 have R4':=Lib.hid (And.intro r7 r8)
 have T3:=Lib.hid t3
 have D7a:=Lib.hid d7
 have D8a:=Lib.hid d8
 clear c4 g0 g1 g3 gw g4 r5 r7 r8 t3 q3 no3 nb3 d7 d8 d4 hj4
 go_wp2_with fail
 refine C4.out.mono ?_
 rintro e w4 ⟨rfl,g5,q4⟩
 rw [show k3W g k+2*(g.closed.length:Int)=k4W g k from rfl]
 have no4:∀ B:Blk,neB B5 B→B.z=false→¬ (B5.z=false∧B.b=B5.b):=fun B n hz h=>n h.1 hz h.2.symm
 have nb4:¬ (B5.z=false∧w.heap.size=B5.b):=fun h=>HB.out _ (I3.out.2.2.2.2.1 _ h) rfl
 have d7:=Zy q4 D7a.out nb4
 have d8:=Zy q4 D8a.out nb4
 have t4:=T3.out.trans (q4.more (O':=GB g.orders W B0 B1 B3 B4 B5 B7 B8) fun b h=>I3.out.2.2.2.2.1 _ h) fun _ _ h=>h
 have g0:=G4.out.1.keepO q4 (no4 B0 fun a b e=>n05 b a e.symm)
 have g1:=G4.out.2.1.keepO q4 (no4 B1 fun a b e=>n15 b a e.symm)
 have g3:=G4.out.2.2.1.keepO q4 (no4 B3 fun a b e=>n35 b a e.symm)
 have gw:∀ j o,(mkOr (k1W g k) g.orders)[j]?=some o→WayB w4 o.way (us j) (W j):=fun j o ho=>(G4.out.2.2.2.1 j o ho).keepO q4 fun hz h=>HWR.out j (lenK ho) B5 (by simp) hz h.1 h.2
 have g4:=G4.out.2.2.2.2.keepO q4 (no4 B4 fun a b e=>n45 b a e.symm)
 have r7:=R4'.out.1.keepO q4 (no4 B7 n57)
 have r8:=R4'.out.2.keepO q4 (no4 B8 n58)
 have c5:=ZnF (k:=k4W g k) r7 HF.out.scans (by omega) (by omega)
 rw [← E7.out] at c5
 have C5:=Lib.hid c5
 have G5:=Lib.hid (And.intro g0 (And.intro g1 (And.intro g3 (And.intro gw (And.intro g4 g5)))))
 have R5':=Lib.hid r8
 have T4:=Lib.hid t4
 have D8b:=Lib.hid d8
 clear c5 g0 g1 g3 gw g4 g5 r7 r8 t4 q4 no4 nb4 d8 d5
 go_wp2_with fail
 refine C5.out.mono ?_
 rintro e w5 ⟨rfl,g7,q5⟩
 rw [show k4W g k+6*(g.scans.length:Int)=k5W g k from rfl]
 have no5:∀ B:Blk,neB B7 B→B.z=false→¬ (B7.z=false∧B.b=B7.b):=fun B n hz h=>n h.1 hz h.2.symm
 have nb5:¬ (B7.z=false∧w.heap.size=B7.b):=fun h=>HB.out _ (I3.out.2.2.2.2.2.1 _ h) rfl
 have d8:=Zy q5 D8b.out nb5
 have t5:=T4.out.trans (q5.more (O':=GB g.orders W B0 B1 B3 B4 B5 B7 B8) fun b h=>I3.out.2.2.2.2.2.1 _ h) fun _ _ h=>h
 have g0:=G5.out.1.keepO q5 (no5 B0 fun a b e=>n07 b a e.symm)
 have g1:=G5.out.2.1.keepO q5 (no5 B1 fun a b e=>n17 b a e.symm)
 have g3:=G5.out.2.2.1.keepO q5 (no5 B3 fun a b e=>n37 b a e.symm)
 have gw:∀ j o,(mkOr (k1W g k) g.orders)[j]?=some o→WayB w5 o.way (us j) (W j):=fun j o ho=>(G5.out.2.2.2.1 j o ho).keepO q5 fun hz h=>HWR.out j (lenK ho) B7 (by simp) hz h.1 h.2
 have g4:=G5.out.2.2.2.2.1.keepO q5 (no5 B4 fun a b e=>n47 b a e.symm)
 have g5:=G5.out.2.2.2.2.2.keepO q5 (no5 B5 fun a b e=>n57 b a e.symm)
 have r8:=R5'.out.keepO q5 (no5 B8 n78)
 have c6:=ZlG (k:=k5W g k) r8 HF.out.skip (by omega) (by omega)
 rw [← E8.out] at c6
 have C6:=Lib.hid c6
 have G6:=Lib.hid (And.intro g0 (And.intro g1 (And.intro g3 (And.intro gw (And.intro g4 (And.intro g5 g7))))))
 have T5:=Lib.hid t5
 clear c6 g0 g1 g3 gw g4 g5 g7 r8 t5 q5 no5 nb5 d7
 go_wp2_with fail
 refine C6.out.mono ?_
 rintro e w6 ⟨rfl,g8,q6⟩
 rw [show k5W g k+(g.skip.length:Int)=k6W g k from rfl]
 have no6:∀ B:Blk,neB B8 B→B.z=false→¬ (B8.z=false∧B.b=B8.b):=fun B n hz h=>n h.1 hz h.2.symm
 have t6:=T5.out.trans (q6.more (O':=GB g.orders W B0 B1 B3 B4 B5 B7 B8) fun b h=>I3.out.2.2.2.2.2.2 _ h) fun _ _ h=>h
 have fin:GW w6 (mkW g k) us W B0 B1 B3 B4 B5 B7 B8:=⟨G6.out.1.keepO q6 (no6 B0 fun a b e=>n08 b a e.symm),G6.out.2.1.keepO q6 (no6 B1 fun a b e=>n18 b a e.symm),G6.out.2.2.1.keepO q6 (no6 B3 fun a b e=>n38 b a e.symm),G6.out.2.2.2.2.1.keepO q6 (no6 B4 fun a b e=>n48 b a e.symm),G6.out.2.2.2.2.2.1.keepO q6 (no6 B5 fun a b e=>n58 b a e.symm),G6.out.2.2.2.2.2.2.keepO q6 (no6 B7 fun a b e=>n78 b a e.symm),g8,fun j o ho=>(G6.out.2.2.2.1 j o ho).keepO q6 fun hz h=>HWR.out j (lenK ho) B8 (by simp) hz h.1 h.2⟩
 have FIN:=Lib.hid fin
 have T6:=Lib.hid t6
 clear fin t6 g8 q6 no6 d8
 go_wp2_with fail
 go_ret
 exact ⟨rfl,FIN.out,T6.out⟩
def Zpg (g:YWorld):Mem:=[some ⟨.of 67,6,g.network.legs.map cLeg⟩,some ⟨.of 3,1,g.network.off.map cInt⟩,some ⟨⟨62,some 55⟩,11,g.orders.map cOrder⟩,some ⟨.of 135,4,g.bookings.map cBooking⟩,some ⟨.of 55,2,g.closed.map cTrip⟩,some ⟨.of 130,6,g.scans.map cScan⟩,some ⟨.of 3,1,g.skip.map cInt⟩]
def aggW (g:YWorld):PV:=.ag [.ms 0,.ms 1,vi g.network.change,.ms 2,.ms 3,.ms 4,vi g.now,.ms 5,.ms 6,vi g.made]
theorem ZrH {w:World} {E:Env} {way:List YTrip} {u:Value} (hr:Rep w E (.sl (way.map cTrip)) u) {q:Key} (hk:way≠[]→Zma w E 55 q (way.map cTrip) u):∃ B:Blk,WayB w way u B∧(B.z=false→E.ω B.b q):=by
 have h:=hr.sl_inv
 by_cases h0:way=[]
 ·subst h0
  refine ⟨⟨0,0,0,2,55,true⟩,.inl ⟨rfl,rfl,?_⟩,fun h=>by cases h⟩
  generalize hq:PV.sl (([]:List YTrip).map cTrip)=p at h
  cases h with
  | nil A c=>exact ⟨A,c,rfl⟩
  | sl es b off k c u hS hkk hn hm hes hc h1 hr=>
   obtain rfl:([]:List (List PV))=es:=by simpa using hq
   exact ⟨_,_,rfl⟩
  | v=>cases hq
  | ud=>cases hq
  | un=>cases hq
  | rp=>cases hq
  | fn=>cases hq
 ·obtain ⟨b,c,k,cs,rfl,hw,hh,hs,hk0,hnc,hcm,hlen⟩:=hk h0
  obtain ⟨t,hx⟩:∃ t,way[0]?=some t:=⟨way[0]'(List.length_pos_iff.2 h0),List.getElem?_eq_getElem _⟩
  have hk2:k=2:=by
   have:=hlen (cTrip t) (List.mem_map.2 ⟨t,List.mem_of_getElem? hx,rfl⟩)
   exact this.symm
  subst hk2
  rw [List.length_map] at hnc
  refine ⟨⟨b,c,way.length,2,55,false⟩,.inr ⟨rfl,by simp [Blk.sv],rfl,by simp,rfl,Nat.zero_lt_two,hnc,hcm,fun i ds hi=>hlen ds (List.mem_of_getElem? hi),fun h=>(by cases h),fun _=>⟨cs,hh,hs,fun i ds j p hi hj=>?_⟩,fun _ h=>by cases h⟩,fun _=>hw⟩
  generalize hq:PV.sl (way.map cTrip)=p0 at h
  generalize hu:Value.slice (some ⟨b,0,none⟩) (way.map cTrip).length c=u0 at h
  cases h with
  | nil A c=>simp at hq; exact absurd hq h0
  | sl es b' off k' c' u hS hkk hn hm hes hc h1 hr=>
   obtain rfl:way.map cTrip=es:=by simpa using hq
   have e:b=b'∧0=off:=by
    injection hu with e1 _ _
    injection e1 with e1
    injection e1 with e1 e2
    exact ⟨e1,e2⟩
   obtain ⟨rfl,rfl⟩:=e
   have hk':2=k':=hes 0 (cTrip t) (by rw [List.getElem?_map,hx]; rfl)
   subst hk'
   have h3:=hc i ds j p hi hj
   rw [Nat.zero_add,cell_of_row w b _ cs _ (0,0) hh] at h3
   obtain ⟨v,rfl⟩:=Zp3 (List.mem_of_getElem? hi) (List.mem_of_getElem? hj)
   have h4:=hr i ds j _ hi hj
   have h5:=h1 i ds j _ hi hj
   have e6:u i j=v:=by cases h4; rfl
   rw [e6] at h3 h5
   exact ⟨v,h3,h5,.c (.v _ h5)⟩
  | v=>cases hq
  | ud=>cases hq
  | un=>cases hq
  | rp=>cases hq
  | fn=>cases hq
theorem ZqA {o:YOrder} {u:Value} {j:Nat} {p:PV} (h:(cOU o u)[j]?=some p) (h6:j≠6):(∃ v,p=.v v)∧(cOrder o)[j]?=some p:=by
 match j,h with
 | 0,h | 1,h | 2,h | 3,h | 4,h | 5,h | 7,h | 8,h | 9,h | 10,h=>obtain rfl:=Option.some.inj h; exact ⟨⟨_,rfl⟩,rfl⟩
 | 6,h=>exact absurd rfl h6
 | j+11,h=>simp [cOU] at h
theorem Zrj {w w':World} {E:Env} {g:YWorld} {v:Value} {O:Nat→Prop} (hk:Ok w O E w' (Zpg g)) (hO:∀ b,¬ O b) (hω:∀ b q,E.ω b q→w.heap.size≤b) (hr:Rep w' E (aggW g) v):
 ∃ B0 B1 B3 B4 B5 B7 B8 us W,v=.agg #[Blk.sv B0,Blk.sv B1,I g.network.change,Blk.sv B3,Blk.sv B4,Blk.sv B5,I g.now,Blk.sv B7,Blk.sv B8,I g.made]∧GW w' g us W B0 B1 B3 B4 B5 B7 B8∧GD g.orders.length W B0 B1 B3 B4 B5 B7 B8∧∀ b,GB g.orders W B0 B1 B3 B4 B5 B7 B8 b→w.heap.size≤b:=by
 obtain ⟨vs,rfl,hl,h1,hv⟩:=hr.ag_inv
 have hvl:vs.size=10:=hl
 have at_:∀ {j:Nat} {p:PV},j<10→[PV.ms 0,.ms 1,vi g.network.change,.ms 2,.ms 3,.ms 4,vi g.now,.ms 5,.ms 6,vi g.made][j]?=some p→∃ x,vs[j]?=some x∧Rep w' E p x:=fun {j p} hj hp=>⟨vs[j]'(by omega),Array.getElem?_eq_getElem _,hv j p _ hp (Array.getElem?_eq_getElem _)⟩
 obtain ⟨x0,y0,z0⟩:=at_ (j:=0) (by omega) rfl
 obtain ⟨x1,y1,z1⟩:=at_ (j:=1) (by omega) rfl
 obtain ⟨x2,y2,z2⟩:=at_ (j:=2) (by omega) rfl
 obtain ⟨x3,y3,z3⟩:=at_ (j:=3) (by omega) rfl
 obtain ⟨x4,y4,z4⟩:=at_ (j:=4) (by omega) rfl
 obtain ⟨x5,y5,z5⟩:=at_ (j:=5) (by omega) rfl
 obtain ⟨x6,y6,z6⟩:=at_ (j:=6) (by omega) rfl
 obtain ⟨x7,y7,z7⟩:=at_ (j:=7) (by omega) rfl
 obtain ⟨x8,y8,z8⟩:=at_ (j:=8) (by omega) rfl
 obtain ⟨x9,y9,z9⟩:=at_ (j:=9) (by omega) rfl
 have hvs:vs=#[x0,x1,x2,x3,x4,x5,x6,x7,x8,x9]:=by
  apply Array.ext (by simp [hvl])
  intro i hi h3
  have e:=fun {j:Nat} {y:Value} (h:vs[j]?=some y)=>(Array.getElem?_eq_some_iff.1 h).2
  match i,hi with
  | 0,_=>simpa using e y0
  | 1,_=>simpa using e y1
  | 2,_=>simpa using e y2
  | 3,_=>simpa using e y3
  | 4,_=>simpa using e y4
  | 5,_=>simpa using e y5
  | 6,_=>simpa using e y6
  | 7,_=>simpa using e y7
  | 8,_=>simpa using e y8
  | 9,_=>simpa using e y9
  | i+10,hi=>omega
 obtain ⟨B0,b0,r0,rfl⟩:=z0.ms_inv hk (l:=0) rfl
 obtain ⟨B1,b1,r1,rfl⟩:=z1.ms_inv hk (l:=1) rfl
 obtain ⟨rfl,_⟩:=z2.v_inv
 obtain ⟨B3,b3,r3,rfl⟩:=z3.ms_inv hk (l:=2) rfl
 obtain ⟨B4,b4,r4,rfl⟩:=z4.ms_inv hk (l:=3) rfl
 obtain ⟨B5,b5,r5,rfl⟩:=z5.ms_inv hk (l:=4) rfl
 obtain ⟨rfl,_⟩:=z6.v_inv
 obtain ⟨B7,b7,r7,rfl⟩:=z7.ms_inv hk (l:=5) rfl
 obtain ⟨B8,b8,r8,rfl⟩:=z8.ms_inv hk (l:=6) rfl
 obtain ⟨rfl,_⟩:=z9.v_inv
 -- the ways
 have hw:∀ j:Nat,∃ uB:Value × Blk,∀ o,g.orders[j]?=some o→(B3.z=false→w'.cell? ⟨B3.b,j*11+6,none⟩=some uB.1∧uB.1.oneCell'=true)∧WayB w' o.way uB.1 uB.2∧(uB.2.z=false→E.ω uB.2.b (62,j,6)):=by
  intro j
  cases ho:g.orders[j]? with
  | none=>exact ⟨(undef,B3),fun o h=>by cases h⟩
  | some o=>
   have hi:(g.orders.map cOrder)[j]?=some (cOrder o):=by rw [List.getElem?_map,ho]; rfl
   have hz:B3.z=false:=r3.full hi
   obtain ⟨cells,m1,m2,m3⟩:=r3.mem hz
   have hk11:B3.k=11:=r3.k
   obtain ⟨x,a1,a2,a3⟩:=m3 j _ 6 (.sl (o.way.map cTrip)) hi rfl
   rw [hk11] at a1
   have hcell:w'.cell? ⟨B3.b,j*11+6,none⟩=some x:=by rw [cell_of_row w' B3.b _ cells B3.T (0,0) m1]; exact a1
   obtain ⟨B,c1,c2⟩:=ZrH a3 (q:=(62,j,6)) fun hne=>r3.key 55 rfl hz j _ 6 _ x hi rfl (by simpa using hne) (by rw [hk11]; exact hcell)
   exact ⟨(x,B),fun o' h=>by cases h; exact ⟨fun _=>⟨hcell,a2⟩,c1,c2⟩⟩
 obtain ⟨uB,huB⟩:=Classical.axiomOfChoice hw
 have hown:∀ {l:Nat} {B:Blk},E.β l=some B→B.z=false→w.heap.size≤B.b:=fun hB hz=>by
  rcases (hk.own _ _ hB hz).1 with h | h
  ·exact absurd h (hO _)
  ·exact h
 have hne:∀ {l l':Nat} {B B':Blk},E.β l=some B→E.β l'=some B'→l≠l'→neB B B':=fun hB hB' hll z z' e=>hll (hk.inj _ _ _ _ hB hB' z z' e)
 have hS:∀ j o,g.orders[j]?=some o→(uB j).2.z=false→E.S (uB j).2.b:=fun j o ho hz=>(hk.ow _ _ ((huB j o ho).2.2 hz)).1
 have hwr:∀ {l:Nat} {B:Blk},E.β l=some B→∀ j,j<g.orders.length→neB (uB j).2 B:=fun hB j hj hz hz' e=>by
  have:=hS j _ (List.getElem?_eq_getElem hj) hz
  rw [e] at this
  exact (hk.own _ _ hB hz').2.2 this
 refine ⟨B0,B1,B3,B4,B5,B7,B8,fun j=>(uB j).1,fun j=>(uB j).2,by rw [hvs],⟨r0.flat0 (fun cs hcs p hp=>Zg5 hcs hp),r1.flat0 (fun cs hcs p hp=>ZeT hcs hp),?_,r4.flat0 (fun cs hcs p hp=>ZeD hcs hp),r5.flat0 (fun cs hcs p hp=>Ze9 hcs hp),r7.flat0 (fun cs hcs p hp=>Zf2 hcs hp),r8.flat0 (fun cs hcs p hp=>ZeT hcs hp),fun j o ho=>(huB j o ho).2.1⟩,⟨?_,?_,?_⟩,?_⟩
 ·refine ⟨r3.k,r3.n.trans (by rw [Zgf]; simp),r3.T,r3.pos,r3.nc,r3.cm,fun i cs hi=>?_,fun hz=>?_,fun hz=>?_,fun _ h=>by cases h⟩
  ·obtain ⟨o,_,rfl⟩:=Zhb hi
   rw [r3.k]; rfl
  ·have:=r3.nil hz
   have h0:g.orders=[]:=by simpa using this
   show ordU g.orders _=[]
   rw [h0]; rfl
  ·obtain ⟨cells,m1,m2,m3⟩:=r3.mem hz
   refine ⟨cells,m1,m2,fun i cs j p hi hj=>?_⟩
   obtain ⟨o,ho,rfl⟩:=Zhb hi
   have hi':(g.orders.map cOrder)[i]?=some (cOrder o):=by rw [List.getElem?_map,ho]; rfl
   by_cases h6:j=6
   ·subst h6
    obtain rfl:=Option.some.inj hj
    obtain ⟨hc,ho1⟩:=(huB i o ho).1 hz
    rw [cell_of_row w' B3.b _ cells B3.T (0,0) m1] at hc
    have hk11:B3.k=11:=r3.k
    rw [hk11]
    exact ⟨_,hc,ho1,.c (.v _ ho1)⟩
   ·obtain ⟨⟨v,rfl⟩,hj'⟩:=ZqA hj h6
    obtain ⟨x,a1,a2,a3⟩:=m3 i _ j _ hi' hj'
    obtain ⟨rfl,_⟩:=a3.v_inv
    exact ⟨x,a1,a2,.c (.v _ a2)⟩
 ·simp only [List.pairwise_cons,List.mem_cons,List.not_mem_nil,or_false,forall_eq_or_imp,forall_eq,List.Pairwise.nil,and_true,false_implies,implies_true]
  exact ⟨⟨hne b0 b1 (by omega),hne b0 b3 (by omega),hne b0 b4 (by omega),hne b0 b5 (by omega),hne b0 b7 (by omega),hne b0 b8 (by omega)⟩,⟨hne b1 b3 (by omega),hne b1 b4 (by omega),hne b1 b5 (by omega),hne b1 b7 (by omega),hne b1 b8 (by omega)⟩,⟨hne b3 b4 (by omega),hne b3 b5 (by omega),hne b3 b7 (by omega),hne b3 b8 (by omega)⟩,⟨hne b4 b5 (by omega),hne b4 b7 (by omega),hne b4 b8 (by omega)⟩,⟨hne b5 b7 (by omega),hne b5 b8 (by omega)⟩,hne b7 b8 (by omega)⟩
 ·intro j hj B hB
  simp only [List.mem_cons,List.not_mem_nil,or_false] at hB
  rcases hB with rfl | rfl | rfl | rfl | rfl | rfl | rfl
  ·exact hwr b0 j hj
  ·exact hwr b1 j hj
  ·exact hwr b3 j hj
  ·exact hwr b4 j hj
  ·exact hwr b5 j hj
  ·exact hwr b7 j hj
  ·exact hwr b8 j hj
 ·intro i j hi hj zi zj e
  have a:=(huB i _ (List.getElem?_eq_getElem hi)).2.2 zi
  have b:=(huB j _ (List.getElem?_eq_getElem hj)).2.2 zj
  have e':(uB i).2.b=(uB j).2.b:=e
  rw [e'] at a
  have:=(hk.ow _ _ b).2 _ a
  simpa using this
 ·rintro b (⟨B,hB,hz,rfl⟩ | ⟨j,hj,hz,rfl⟩)
  ·simp only [List.mem_cons,List.not_mem_nil,or_false] at hB
   rcases hB with rfl | rfl | rfl | rfl | rfl | rfl | rfl
   ·exact hown b0 hz
   ·exact hown b1 hz
   ·exact hown b3 hz
   ·exact hown b4 hz
   ·exact hown b5 hz
   ·exact hown b7 hz
   ·exact hown b8 hz
  ·exact hω _ _ ((huB j _ (List.getElem?_eq_getElem hj)).2.2 hz)
end Go.Proofs.YtmcdjilbkmhfoaaGreat
