/- A part of the proof of the statement in the last file of this claim: texts on the language of the program and on its functions. No condition. -/
import Derived.Test.YtmcdjilbkmhfoaaGreatCFnSeenAll4
import Derived.Test.YtmcdjilbkmhfoaaGreatCFnSeenAll1
import Derived.Laws.AppendOwnNone
import Derived.Maps.OwnSet
import Derived.StringKeys
import Derived.Deep.AppendLies
import Derived.Shelf.Small.Bits
import Derived.Shelf.Small.Strs
import Derived.Shelf.Strconv.Itoa0
import Derived.Shelf.Sort.Plain
import Derived.Ground.GgsProg
import Derived.Shelf.GgSortFunc.Insertion
import Derived.Shelf.GgSortFunc.InsertionK
import Derived.Shelf.GgSortFunc.Tiny
import Derived.Shelf.GgSortFunc.Compose
import Derived.Ground.GgtProg
import Derived.Shelf.GgSortMore.Stable
import Derived.Shelf.Slices.In.SortNone
import Derived.Shelf.Slices.In.SortNone2
import Derived.Test.YtmcdjilbkmhfoaaGreatProg
import Derived.Sort.OwnSorted
namespace Go.Proofs.YtmcdjilbkmhfoaaGreat
set_option maxRecDepth 10000
open Go.RowKit
set_option linter.unusedVariables false
theorem ZfY {ρ:Nat→Option Nat} {m m':Mem} {f:FuncId} {cs ds:List PV} (h:cutL ρ m m' cs ds):CutC ρ m m' (.fn f cs) (.fn f ds):=by
 have key:∀ (cs ds:List PV),cutL ρ m m' cs ds→ds.length=cs.length∧∀ (j:Nat) (p r:PV),cs[j]?=some p→ds[j]?=some r→CutC ρ m m' p r:=by
  intro cs
  induction cs with
  | nil=>intro ds h; cases ds with
   | nil=>exact ⟨rfl,by simp⟩
   | cons d ds=>exact h.elim
  | cons c cs ih=>intro ds h; cases ds with
   | nil=>exact h.elim
   | cons d ds=>
    obtain ⟨h1,h2⟩:=h
    obtain ⟨k1,k2⟩:=ih ds h2
    refine ⟨by simp [k1],fun j p r hp hr=>?_⟩
    cases j with
    | zero=>simp at hp hr; subst hp hr; exact h1
    | succ j=>simp at hp hr; exact k2 j p r hp hr
 obtain ⟨a,b⟩:=key cs ds h
 exact .fn f cs ds a b
theorem ZqP {α:Type} {xs:List α} {n:Nat} {y:α} {c:α→List PV} (h:getI xs (n:Int)=some y):(xs.map c)[n]?=some (c y):=by
 unfold getI at h
 rw [if_pos (Int.natCast_nonneg n),Int.toNat_natCast] at h
 rw [List.getElem?_map,h]; rfl
theorem lit3 {a b c i y:Int} (h:getI [a,b,c] i=some y):([[PV.v (.int .i64 a)],[PV.v (.int .i64 b)],[PV.v (.int .i64 c)]]:List (List PV))[i.toNat]?=some [PV.v (.int .i64 y)]:=by
 have:([[PV.v (.int .i64 a)],[PV.v (.int .i64 b)],[PV.v (.int .i64 c)]]:List (List PV))=[a,b,c].map cInt:=rfl
 rw [this]; exact Zmc h
theorem ZuJ {P:Program} {io:Bool} {wd ν:Nat} {f:FuncId} {cs ps:List PV} {m:Mem} {K:PV→Mem→Prop} (h1:∀ c∈cs,isR c=true) (h2:isFn P f) (h3:Zgp P io wd ν f (ps++cs) m K):pDyn P io wd ν (.fn f cs) ps m K:=⟨h1,h2,h3⟩
def ZlU (x:List Int):List PV:=[.sl (x.map cInt)]
instance:Zb6 (List Int):=⟨ZlU⟩
instance:ZaY ZlU:=⟨fun x q h=>by simp only [ZlU,List.mem_singleton] at h; subst h; rfl⟩
attribute [go_sem] ZlU
theorem wk3 {p:Prop} (h:p:=by
 (simp only [List.length_cons,List.length_nil,Nat.reduceAdd,Nat.reduceSub,List.replicate_succ,List.replicate_zero,List.cons_append,List.nil_append,go_sem]);
 repeat' (first
  | ((with_reducible refine ZuJ ?_ ?_ ?_); (focus (simp [isR])); (focus (simp only [go_sem])); (simp only [List.cons_append,List.nil_append]))
  | ((with_reducible refine Zs7 H rfl (by kernel_rfl) ?_); (clear H; intro H; simp only [go_sem,Nat.reduceAdd,Nat.reduceSub,Nat.reduceMul,Nat.reduceLT,Nat.reduceLeDiff,Nat.reduceEqDiff,if_true,eq_self]))
  | ((with_reducible refine Zw0 (rhoH H) ?_); (refine Zsr H rfl rfl ?_ ?_ ?_ ?_ ?_ ?_ ?_ ?_); (focus (first | rfl | (simp only [CT.args,List.map_cons,List.map_nil,renA,renC,ren1,Zvh,Zvg,Zvf]; done))); (focus (simp [CT.args,CT.m0,Zg4,ZbA,lowA,lowC,low1,isR])); (focus (first | exact List.nodup_nil | decide)); (focus ((simp only [CT.m0]); (repeat' (first | exact ZkQ | (refine ZkP (by rfl) ?_) | (refine ZkR (by rfl) (by rfl) (by simp [ZbA,lowC,low1,isR]) ?_))))); (focus (intro y_; simp [CT.mem,CT.m0])); (focus (intro y_; (simp only [CT.mem]); (repeat (first | exact Zmb | exact Zhs | exact Zg5 | (refine hm_c Zhs ?_) | (refine hm_c (Zcb (by simp [ZbA,isR])) ?_) | exact Zcb (by simp [ZbA,isR]) | (refine ZjP ?_))))); (focus (intro y_; (simp [CT.res,ZgA,Zg4,ZbA,isR]))); (clear H; intro y_ hy H; simp only [CT.res,CT.mem,Ze9,List.drop_succ_cons,List.drop_zero,Option.map_none,go_sem,Nat.reduceAdd,Nat.reduceSub,Nat.reduceMul,Nat.reduceLT,Nat.reduceLeDiff,Nat.reduceEqDiff,if_true,eq_self]))
  | ((with_reducible refine jnS (jnH H) ?_); (first | ((refine ZuY H ?_ ?_ (fun K_ hL H=>?_) (fun o_ H=>?_)); (focus (decide +kernel)); (focus (decide +kernel))) | ((refine ZtM H ?_ ?_ (fun K_ hL H=>?_) (fun o_ H=>?_)); (focus (decide +kernel)); (focus (decide +kernel)))))
  | ((with_reducible refine rhoS (rhoH H) ?_); (refine Zub H rfl rfl rfl ?_ ?_ ?_ ?_ ?_ ?_ ?_ ?_); (focus (first | rfl | (simp only [CT.args,List.map_cons,List.map_nil,renA,renC,ren1,Zvh,Zvg,Zvf]; done))); (focus (simp [CT.args,CT.m0,Zg4,ZbA,lowA,lowC,low1,isR])); (focus (first | exact List.nodup_nil | decide)); (focus ((simp only [CT.m0]); (repeat' (first | exact ZkQ | (refine ZkP (by rfl) ?_) | (refine ZkR (by rfl) (by rfl) (by simp [ZbA,lowC,low1,isR]) ?_))))); (focus (intro y_; simp [CT.mem,CT.m0])); (focus (intro y_; (simp only [CT.mem]); (repeat (first | exact Zmb | exact Zhs | exact Zg5 | (refine hm_c Zhs ?_) | (refine hm_c (Zcb (by simp [ZbA,isR])) ?_) | exact Zcb (by simp [ZbA,isR]) | (refine ZjP ?_))))); (focus (intro y_; (simp [CT.res,ZgA,Zg4,ZbA,isR]))); (clear H; intro y_ hy H; simp only [CT.res,CT.mem,Ze9,List.drop_succ_cons,List.drop_zero,Option.map_none,go_sem,Nat.reduceAdd,Nat.reduceSub,Nat.reduceMul,Nat.reduceLT,Nat.reduceLeDiff,Nat.reduceEqDiff,if_true,eq_self]))
  | ((with_reducible refine Zs9 H ?_ ?_); (focus ((try simp only [U_s,U_z]); (with_reducible refine cutS ?_); (first | (with_reducible apply ZiN) | (with_reducible apply ZiO) | (with_reducible apply ZiP) | (with_reducible apply ZiQ) | (with_reducible apply ZiR) | (with_reducible apply ZiS) | (with_reducible apply ZiT) | (with_reducible apply ZiU) | (with_reducible apply ZiV) | (with_reducible apply ZiW) | (with_reducible apply ZgY) | (with_reducible apply ZgZ) | (with_reducible apply Zg0)); (repeat' (first       | (with_reducible exact Zi3) | (with_reducible refine Zi4 ?_) | (with_reducible refine Zi5 ?_) | (with_reducible refine Zg1 ?_)       | (with_reducible refine ZiY ?_ ?_)       | (with_reducible exact Zf1)       | (with_reducible exact Zfx rfl)       | exact Zfx rfl       | (with_reducible exact Zf0)       | (with_reducible refine ZiX ?_ ?_)       | exact .c _ rfl       | exact .un _       | exact ZgW rfl rfl       | exact ZgV rfl rfl       | exact ZdN | exact ZeG       | exact ZeF rfl rfl       | (refine ZfB rfl ?_) | (refine Zfl rfl rfl ?_) | (refine ZfZ rfl rfl rfl ?_)       | (refine ZfX rfl rfl ?_)       | (with_reducible refine ZfY ?_) | (with_reducible refine Zg2 ?_)       | (with_reducible refine Zg3 ?_)       | (with_reducible exact Zfj)       | (with_reducible refine ZgU ?_ ?_)       | (with_reducible refine ZgT ?_)       | (with_reducible refine ZiK ?_)       | (with_reducible refine ZiZ ?_)       | (with_reducible exact ZeL)       | (refine Zd2 rfl ?_ ?_)       | (refine Zd3 rfl ?_) | (refine ZeK rfl ?_)       | (with_reducible refine Zd1 ?_)       | (with_reducible refine ZfU ?_)       | (with_reducible exact ZfT)       | (with_reducible refine ZfW ?_)       | (with_reducible exact ZiM)       | (with_reducible refine ZiL ?_ ?_)       | (with_reducible exact ZbY)       | (with_reducible refine ZcN ?_)       | exact ZbY       | (refine ZcN ?_)       | (refine ZfV ?_)       | (refine Zfk ?_)       | (simp only [cInt,cStr,ZhR,cB8,ZgJ,ZfR,Ze6,ZhD,ZhC,cLeg,Zm,Zr,Zg,ZF,Zv,ZbD,ZhB,cAct,Zfs,ZgR,Zge,Zgf,Zfr,ZfS,Ze5])       | (with_unfolding_all rfl))); (all_goals first | (exact Zd5 rfl) | exact none))); (clear H; intro z_ H))
  | ((with_reducible refine ZuX H ?_ ?_); (focus ((try simp only [U_s,U_z]); (with_reducible refine cutS ?_); (first | (with_reducible apply ZiN) | (with_reducible apply ZiO) | (with_reducible apply ZiP) | (with_reducible apply ZiQ) | (with_reducible apply ZiR) | (with_reducible apply ZiS) | (with_reducible apply ZiT) | (with_reducible apply ZiU) | (with_reducible apply ZiV) | (with_reducible apply ZiW) | (with_reducible apply ZgY) | (with_reducible apply ZgZ) | (with_reducible apply Zg0)); (repeat' (first       | (with_reducible exact Zi3) | (with_reducible refine Zi4 ?_) | (with_reducible refine Zi5 ?_) | (with_reducible refine Zg1 ?_)       | (with_reducible refine ZiY ?_ ?_)       | (with_reducible exact Zf1)       | (with_reducible exact Zfx rfl)       | exact Zfx rfl       | (with_reducible exact Zf0)       | (with_reducible refine ZiX ?_ ?_)       | exact .c _ rfl       | exact .un _       | exact ZgW rfl rfl       | exact ZgV rfl rfl       | exact ZdN | exact ZeG       | exact ZeF rfl rfl       | (refine ZfB rfl ?_) | (refine Zfl rfl rfl ?_) | (refine ZfZ rfl rfl rfl ?_)       | (refine ZfX rfl rfl ?_)       | (with_reducible refine ZfY ?_) | (with_reducible refine Zg2 ?_)       | (with_reducible refine Zg3 ?_)       | (with_reducible exact Zfj)       | (with_reducible refine ZgU ?_ ?_)       | (with_reducible refine ZgT ?_)       | (with_reducible refine ZiK ?_)       | (with_reducible refine ZiZ ?_)       | (with_reducible exact ZeL)       | (refine Zd2 rfl ?_ ?_)       | (refine Zd3 rfl ?_) | (refine ZeK rfl ?_)       | (with_reducible refine Zd1 ?_)       | (with_reducible refine ZfU ?_)       | (with_reducible exact ZfT)       | (with_reducible refine ZfW ?_)       | (with_reducible exact ZiM)       | (with_reducible refine ZiL ?_ ?_)       | (with_reducible exact ZbY)       | (with_reducible refine ZcN ?_)       | exact ZbY       | (refine ZcN ?_)       | (refine ZfV ?_)       | (refine Zfk ?_)       | (simp only [cInt,cStr,ZhR,cB8,ZgJ,ZfR,Ze6,ZhD,ZhC,cLeg,Zm,Zr,Zg,ZF,Zv,ZbD,ZhB,cAct,Zfs,ZgR,Zge,Zgf,Zfr,ZfS,Ze5])       | (with_unfolding_all rfl))); (all_goals first | (exact Zd5 rfl) | exact none))); (clear H; intro H))
  | ((with_reducible refine Zu0 ?_); intro K_ hK)
  | ((with_reducible refine Zrx ?_))
  | ((with_reducible refine ZpL ?_); simp only [go_sem,Nat.reduceAdd,Nat.reduceSub,Nat.reduceMul,Nat.reduceLT,Nat.reduceLeDiff,Nat.reduceEqDiff,if_true,eq_self])
  | ((with_reducible refine Zta ?_); (try simp only [Zf6,ZfA]))
  | ((with_reducible refine Zs8 ?_); (simp only [Zk0,ZjB,Zf6,ZfA,if_true,if_false,eq_self,Nat.reduceEqDiff,Nat.one_ne_zero,Nat.zero_ne_one]); (try simp only [bexR,bsr,bsl] at H))
  | ((with_reducible refine ZuZ ?_); (try simp only [ZmX,ZkE]))
  | ((with_reducible refine hQ _ _ ?_); (try simp only [bexR,bsr,bsl] at H); replace H:=Hret H; subst H; simp only [Fin,resP,oneP,go_sem,Nat.reduceAdd,Nat.reduceSub,Nat.reduceMul,Nat.reduceLT,Nat.reduceLeDiff,Nat.reduceEqDiff,if_true,eq_self]; (try simp only [U_s,U_z]); (with_reducible refine cutS ?_); (first | (with_reducible apply ZiN) | (with_reducible apply ZiO) | (with_reducible apply ZiP) | (with_reducible apply ZiQ) | (with_reducible apply ZiR) | (with_reducible apply ZiS) | (with_reducible apply ZiT) | (with_reducible apply ZiU) | (with_reducible apply ZiV) | (with_reducible apply ZiW) | (with_reducible apply ZgY) | (with_reducible apply ZgZ) | (with_reducible apply Zg0)); (repeat' (first       | (with_reducible exact Zi3) | (with_reducible refine Zi4 ?_) | (with_reducible refine Zi5 ?_) | (with_reducible refine Zg1 ?_)       | (with_reducible refine ZiY ?_ ?_)       | (with_reducible exact Zf1)       | (with_reducible exact Zfx rfl)       | exact Zfx rfl       | (with_reducible exact Zf0)       | (with_reducible refine ZiX ?_ ?_)       | exact .c _ rfl       | exact .un _       | exact ZgW rfl rfl       | exact ZgV rfl rfl       | exact ZdN | exact ZeG       | exact ZeF rfl rfl       | (refine ZfB rfl ?_) | (refine Zfl rfl rfl ?_) | (refine ZfZ rfl rfl rfl ?_)       | (refine ZfX rfl rfl ?_)       | (with_reducible refine ZfY ?_) | (with_reducible refine Zg2 ?_)       | (with_reducible refine Zg3 ?_)       | (with_reducible exact Zfj)       | (with_reducible refine ZgU ?_ ?_)       | (with_reducible refine ZgT ?_)       | (with_reducible refine ZiK ?_)       | (with_reducible refine ZiZ ?_)       | (with_reducible exact ZeL)       | (refine Zd2 rfl ?_ ?_)       | (refine Zd3 rfl ?_) | (refine ZeK rfl ?_)       | (with_reducible refine Zd1 ?_)       | (with_reducible refine ZfU ?_)       | (with_reducible exact ZfT)       | (with_reducible refine ZfW ?_)       | (with_reducible exact ZiM)       | (with_reducible refine ZiL ?_ ?_)       | (with_reducible exact ZbY)       | (with_reducible refine ZcN ?_)       | exact ZbY       | (refine ZcN ?_)       | (refine ZfV ?_)       | (refine Zfk ?_)       | (simp only [cInt,cStr,ZhR,cB8,ZgJ,ZfR,Ze6,ZhD,ZhC,cLeg,Zm,Zr,Zg,ZF,Zv,ZbD,ZhB,cAct,Zfs,ZgR,Zge,Zgf,Zfr,ZfS,Ze5])       | (with_unfolding_all rfl))); (all_goals first | (exact Zd5 rfl) | exact none))
  | ((with_reducible refine hQn _ _ ?_); (try simp only [bexR,bsr,bsl] at H); replace H:=Hret H; subst H; simp only [Fin,resP,oneP,go_sem,Nat.reduceAdd,Nat.reduceSub,Nat.reduceMul,Nat.reduceLT,Nat.reduceLeDiff,Nat.reduceEqDiff,if_true,eq_self]; (try simp only [U_s,U_z]); (with_reducible refine cutS ?_); (first | (with_reducible apply ZiN) | (with_reducible apply ZiO) | (with_reducible apply ZiP) | (with_reducible apply ZiQ) | (with_reducible apply ZiR) | (with_reducible apply ZiS) | (with_reducible apply ZiT) | (with_reducible apply ZiU) | (with_reducible apply ZiV) | (with_reducible apply ZiW) | (with_reducible apply ZgY) | (with_reducible apply ZgZ) | (with_reducible apply Zg0)); (repeat' (first       | (with_reducible exact Zi3) | (with_reducible refine Zi4 ?_) | (with_reducible refine Zi5 ?_) | (with_reducible refine Zg1 ?_)       | (with_reducible refine ZiY ?_ ?_)       | (with_reducible exact Zf1)       | (with_reducible exact Zfx rfl)       | exact Zfx rfl       | (with_reducible exact Zf0)       | (with_reducible refine ZiX ?_ ?_)       | exact .c _ rfl       | exact .un _       | exact ZgW rfl rfl       | exact ZgV rfl rfl       | exact ZdN | exact ZeG       | exact ZeF rfl rfl       | (refine ZfB rfl ?_) | (refine Zfl rfl rfl ?_) | (refine ZfZ rfl rfl rfl ?_)       | (refine ZfX rfl rfl ?_)       | (with_reducible refine ZfY ?_) | (with_reducible refine Zg2 ?_)       | (with_reducible refine Zg3 ?_)       | (with_reducible exact Zfj)       | (with_reducible refine ZgU ?_ ?_)       | (with_reducible refine ZgT ?_)       | (with_reducible refine ZiK ?_)       | (with_reducible refine ZiZ ?_)       | (with_reducible exact ZeL)       | (refine Zd2 rfl ?_ ?_)       | (refine Zd3 rfl ?_) | (refine ZeK rfl ?_)       | (with_reducible refine Zd1 ?_)       | (with_reducible refine ZfU ?_)       | (with_reducible exact ZfT)       | (with_reducible refine ZfW ?_)       | (with_reducible exact ZiM)       | (with_reducible refine ZiL ?_ ?_)       | (with_reducible exact ZbY)       | (with_reducible refine ZcN ?_)       | exact ZbY       | (refine ZcN ?_)       | (refine ZfV ?_)       | (refine Zfk ?_)       | (simp only [cInt,cStr,ZhR,cB8,ZgJ,ZfR,Ze6,ZhD,ZhC,cLeg,Zm,Zr,Zg,ZF,Zv,ZbD,ZhB,cAct,Zfs,ZgR,Zge,Zgf,Zfr,ZfS,Ze5])       | (with_unfolding_all rfl))); (all_goals first | (exact Zd5 rfl) | exact none))
  | ((with_reducible refine ZwS ?_); (refine Zns (fun hg=>Hc1k H hg ?_) (fun hg=>Hc2k H hg ?_)) <;> (clear H; intro H; simp only [go_sem,Nat.reduceAdd,Nat.reduceSub,Nat.reduceMul,Nat.reduceLT,Nat.reduceLeDiff,Nat.reduceEqDiff,if_true,eq_self]))
  | ((with_reducible refine Zry ?_); simp only [ZqC,ZtG,ZtF,Zoo]; (first | (with_reducible refine Zsv ?_) | (with_reducible refine Zsu ?_) | ((refine Znm (fun hg=>Hc1k H hg ?_) (fun hg=>Hc2k H hg ?_)) <;> (clear H; intro H))))
  | ((with_reducible refine idxS ?_); replace H:=Zm7 H; obtain ⟨y_,hy,H⟩:=H; (with_reducible apply Zv1 hy); (focus (first | (simp only [go_sem]; done) | (simp only [go_sem]; decide))); (focus (first | rfl | (simp only [go_sem]; rfl))); simp only [go_sem,Nat.reduceAdd,Nat.reduceSub,Nat.reduceMul,Nat.reduceLT,Nat.reduceLeDiff,Nat.reduceEqDiff,if_true,eq_self])
  | ((with_reducible refine idxM ?_); replace H:=Zm7 H; obtain ⟨y_,hy,H⟩:=H; (first | (refine Zur hy (by rfl) (by first | (simp only [go_sem]; done) | (simp only [go_sem]; decide)) (by first | rfl | (simp only [go_sem]; rfl)) ?_) | (refine ZsH hy (by rfl) (by first | (simp only [go_sem]; done) | (simp only [go_sem]; decide)) (by first | rfl | (simp only [go_sem]; rfl)) ?_)); simp only [go_sem,Nat.reduceAdd,Nat.reduceSub,Nat.reduceMul,Nat.reduceLT,Nat.reduceLeDiff,Nat.reduceEqDiff,if_true,eq_self])
  | ((with_reducible refine idxB ?_); replace H:=Zm7 H; obtain ⟨y_,hy,H⟩:=H; (with_reducible apply Zus hy); (focus (simp only [go_sem])); simp only [go_sem,Nat.reduceAdd,Nat.reduceSub,Nat.reduceMul,Nat.reduceLT,Nat.reduceLeDiff,Nat.reduceEqDiff,if_true,eq_self])
  | ((with_reducible refine ZwE ?_); replace H:=Zm7 H; obtain ⟨y_,hy,H⟩:=H; (first | ((with_reducible apply ZlV); (focus (exact CT.ok hy)); (focus (simp [isCA,isC,isC1])); (focus (exact Nat.le_of_ble_eq_true rfl)); (focus (first | exact Zmb | (repeat (first | exact Zhs | exact Zg5 | exact hm_e | (refine hm_c Zhs ?_) | (refine hm_c Zg5 ?_) | (refine hm_c hm_e ?_) | exact Zcb (by simp [ZbA,isR]) | (refine ZjP ?_) | (refine hm_c (Zcb (by simp [ZbA,isR])) ?_))))); (focus (first | exact ZvS rfl | exact ZvU rfl | exact ZtD rfl | exact ZtE rfl | exact (fun h=>(by cases h)) | (simp [CT.res,ZgA,Zg4,ZbA,isR]))); (simp only [CT.res,CT.mem,go_sem,Nat.reduceAdd,Nat.reduceSub,Nat.reduceMul,Nat.reduceLT,Nat.reduceLeDiff,Nat.reduceEqDiff,if_true,eq_self])) | ((with_reducible apply ZlV); (focus ((refine Zdo.weak (CT.ok hy) ?_); (repeat' (first | exact SubA.n | (refine SubA.c ?_ ?_) | exact SubV.c (SubC.r _) | (refine SubV.ag ?_) | exact SubL.n | (refine SubL.c ?_ ?_) | exact SubC.r _ | exact SubC.nil _)))); (focus (simp [isCA,isC,isC1])); (focus (exact Nat.le_of_ble_eq_true rfl)); (focus (first | exact Zmb | (repeat (first | exact Zhs | exact Zg5 | exact hm_e | (refine hm_c Zhs ?_) | (refine hm_c Zg5 ?_) | (refine hm_c hm_e ?_) | exact Zcb (by simp [ZbA,isR]) | (refine ZjP ?_) | (refine hm_c (Zcb (by simp [ZbA,isR])) ?_))))); (focus (first | exact ZvS rfl | exact ZvU rfl | exact ZtD rfl | exact ZtE rfl | exact (fun h=>(by cases h)) | (simp [CT.res,ZgA,Zg4,ZbA,isR]))); (simp only [CT.res,CT.mem,go_sem,Nat.reduceAdd,Nat.reduceSub,Nat.reduceMul,Nat.reduceLT,Nat.reduceLeDiff,Nat.reduceEqDiff,if_true,eq_self])) | ((with_reducible apply Zqn); (focus (first | (simp only [ZlD,ZmO,Zkx,ZmM,ZjX,Zq1,Zq0,Zlw,Zip,ZiE,List.forall_mem_nil,true_and,and_true]; (first | exact CT.ok hy | (simp only [Zm8,Zk6,isC,isC1,true_and,and_true]; exact CT.ok hy))) | (simp only [ZlD,ZmO,Zkx,ZmM,ZjX,Zq1,Zq0,Zlw,Zip,ZiE,List.forall_mem_nil,true_and,and_true]; (first | ((refine Zdo.weak (CT.ok hy) ?_); (repeat' (first | exact SubA.n | (refine SubA.c ?_ ?_) | exact SubV.c (SubC.r _) | (refine SubV.ag ?_) | exact SubL.n | (refine SubL.c ?_ ?_) | exact SubC.r _ | exact SubC.nil _))) | (simp only [Zm8,Zk6,isC,isC1,true_and,and_true]; ((refine Zdo.weak (CT.ok hy) ?_); (repeat' (first | exact SubA.n | (refine SubA.c ?_ ?_) | exact SubV.c (SubC.r _) | (refine SubV.ag ?_) | exact SubL.n | (refine SubL.c ?_ ?_) | exact SubC.r _ | exact SubC.nil _)))))))); (focus (exact Nat.le_of_ble_eq_true rfl)); (focus (first | exact Zmb | (repeat (first | exact Zhs | exact Zg5 | exact hm_e | (refine hm_c Zhs ?_) | (refine hm_c Zg5 ?_) | (refine hm_c hm_e ?_) | exact Zcb (by simp [ZbA,isR]) | (refine ZjP ?_) | (refine hm_c (Zcb (by simp [ZbA,isR])) ?_))))); (focus (first | exact ZvT rfl | exact (fun _=>rfl) | (simp [CT.res,ZgA,Zg4,ZbA,isF]))); (simp only [CT.res,CT.mem,go_sem,Nat.reduceAdd,Nat.reduceSub,Nat.reduceMul,Nat.reduceLT,Nat.reduceLeDiff,Nat.reduceEqDiff,if_true,eq_self]))))
  | ((with_reducible refine slcS ?_); replace H:=Hchk H; obtain ⟨hc,H⟩:=H; (first | ((with_reducible apply Ztn hc); (focus rfl); (focus rfl); (focus (first | (simp only [go_sem]; done) | (simp only [go_sem]; decide))); (focus (first | rfl | (intro x_; rfl))); simp only [go_sem,Nat.reduceAdd,Nat.reduceSub,Nat.reduceMul,Nat.reduceLT,Nat.reduceLeDiff,Nat.reduceEqDiff,if_true,eq_self]) | ((refine ZrW hc (by rfl) (by rfl) (by rfl) (by first | (simp only [go_sem]; done) | (simp only [go_sem]; decide)) (by first | rfl | (simp only [go_sem]; rfl)) ?_); simp only [go_sem,Nat.reduceAdd,Nat.reduceSub,Nat.reduceMul,Nat.reduceLT,Nat.reduceLeDiff,Nat.reduceEqDiff,if_true,eq_self]) | ((with_reducible apply ZrX hc); (focus rfl); (focus rfl); (focus (simp only [go_sem])); simp only [go_sem,Nat.reduceAdd,Nat.reduceSub,Nat.reduceMul,Nat.reduceLT,Nat.reduceLeDiff,Nat.reduceEqDiff,if_true,eq_self])))
  | ((with_reducible refine appS ?_); replace H:=Hchk H; obtain ⟨hc,H⟩:=H; (first | (refine Zt6 hc (by first | (simp only [go_sem]; done) | (simp only [go_sem]; rfl)) (by first | (simp only [go_sem]; done) | (simp only [go_sem]; rfl)) (by first | (simp only [go_sem]; done) | (simp only [go_sem]; rfl)) (by first | (simp only [go_sem]; done) | (simp only [go_sem]; rfl)) (by rfl) (by first | rfl | exact ZrZ (by rfl) (by rfl) (by rfl)) rfl rfl (by intro x_; rfl) rfl ?_) | (refine Zt7 hc (by first | (simp only [go_sem]; done) | (simp only [go_sem]; rfl)) (by first | (simp only [go_sem]; done) | (simp only [go_sem]; rfl)) (by first | (simp only [go_sem]; done) | (simp only [go_sem]; rfl)) (by first | (simp only [go_sem]; done) | (simp only [go_sem]; rfl)) (by first | rfl | exact ZrZ (by rfl) (by rfl) (by rfl)) rfl rfl (by intro x_; rfl) ?_)); simp only [go_sem,Nat.reduceAdd,Nat.reduceSub,Nat.reduceMul,Nat.reduceLT,Nat.reduceLeDiff,Nat.reduceEqDiff,if_true,eq_self])
  | ((with_reducible refine mkS ?_); replace H:=Hchk H; obtain ⟨hc,H⟩:=H; (refine Zv4 hc (by first | (simp only [go_sem]; done) | (simp only [go_sem]; rfl)) (by first | (simp only [go_sem]; done) | (simp only [go_sem]; rfl)) (by first | (simp only [go_sem]; done) | (simp only [go_sem]; rfl)) (by first | (simp only [go_sem]; done) | (simp only [go_sem]; rfl)) rfl rfl ?_); simp only [go_sem,Nat.reduceAdd,Nat.reduceSub,Nat.reduceMul,Nat.reduceLT,Nat.reduceLeDiff,Nat.reduceEqDiff,if_true,eq_self])
  | ((with_reducible refine optS ?_); (first | (with_reducible refine ZoJ (by decide) ?_) | (replace H:=Hchk H; obtain ⟨hc,H⟩:=H; (first | (refine ZoJ hc ?_) | (refine ZoJ (of_decide_eq_true hc) ?_) | (refine ZoJ ⟨rfl,of_decide_eq_true hc⟩ ?_)))); simp only [go_sem,Nat.reduceAdd,Nat.reduceSub,Nat.reduceMul,Nat.reduceLT,Nat.reduceLeDiff,Nat.reduceEqDiff,if_true,eq_self])
  | ((with_reducible refine ZwT ?_); (refine ZrA (Hlp H) ?_ ?_); (focus (simp only [ZU.T,ZU.M,U_s,U_z]; (try simp only [U_s,U_z]); (with_reducible refine cutS ?_); (first | (with_reducible apply ZiN) | (with_reducible apply ZiO) | (with_reducible apply ZiP) | (with_reducible apply ZiQ) | (with_reducible apply ZiR) | (with_reducible apply ZiS) | (with_reducible apply ZiT) | (with_reducible apply ZiU) | (with_reducible apply ZiV) | (with_reducible apply ZiW) | (with_reducible apply ZgY) | (with_reducible apply ZgZ) | (with_reducible apply Zg0)); (repeat' (first       | (with_reducible exact Zi3) | (with_reducible refine Zi4 ?_) | (with_reducible refine Zi5 ?_) | (with_reducible refine Zg1 ?_)       | (with_reducible refine ZiY ?_ ?_)       | (with_reducible exact Zf1)       | (with_reducible exact Zfx rfl)       | exact Zfx rfl       | (with_reducible exact Zf0)       | (with_reducible refine ZiX ?_ ?_)       | exact .c _ rfl       | exact .un _       | exact ZgW rfl rfl       | exact ZgV rfl rfl       | exact ZdN | exact ZeG       | exact ZeF rfl rfl       | (refine ZfB rfl ?_) | (refine Zfl rfl rfl ?_) | (refine ZfZ rfl rfl rfl ?_)       | (refine ZfX rfl rfl ?_)       | (with_reducible refine ZfY ?_) | (with_reducible refine Zg2 ?_)       | (with_reducible refine Zg3 ?_)       | (with_reducible exact Zfj)       | (with_reducible refine ZgU ?_ ?_)       | (with_reducible refine ZgT ?_)       | (with_reducible refine ZiK ?_)       | (with_reducible refine ZiZ ?_)       | (with_reducible exact ZeL)       | (refine Zd2 rfl ?_ ?_)       | (refine Zd3 rfl ?_) | (refine ZeK rfl ?_)       | (with_reducible refine Zd1 ?_)       | (with_reducible refine ZfU ?_)       | (with_reducible exact ZfT)       | (with_reducible refine ZfW ?_)       | (with_reducible exact ZiM)       | (with_reducible refine ZiL ?_ ?_)       | (with_reducible exact ZbY)       | (with_reducible refine ZcN ?_)       | exact ZbY       | (refine ZcN ?_)       | (refine ZfV ?_)       | (refine Zfk ?_)       | (simp only [cInt,cStr,ZhR,cB8,ZgJ,ZfR,Ze6,ZhD,ZhC,cLeg,Zm,Zr,Zg,ZF,Zv,ZbD,ZhB,cAct,Zfs,ZgR,Zge,Zgf,Zfr,ZfS,Ze5])       | (with_unfolding_all rfl))); (all_goals first | (exact Zd5 rfl) | exact none))); (clear H; intro n_ s_ H K_ hL; replace H:=Hrd H; simp only [ZU.T,ZU.M,U_s,U_z]))
  | ((with_reducible refine Zs6 (by kernel_rfl) ?_); simp only [go_sem,Nat.reduceAdd,Nat.reduceSub,Nat.reduceMul,Nat.reduceLT,Nat.reduceLeDiff,Nat.reduceEqDiff,if_true,eq_self])
  | ((with_reducible refine Zph (by kernel_rfl) ?_); (try simp only [Zf6,ZfA]))
  | ((with_reducible refine hK _ _ ?_); clear hK)
  | (clear hK; (with_reducible refine hK _ _ ?_); clear hK)
  | (clear hK; clear hK; (with_reducible refine hK _ _ ?_); clear hK)
  | (clear hK; clear hK; clear hK; (with_reducible refine hK _ _ ?_); clear hK)
  | (clear hK; clear hK; clear hK; clear hK; (with_reducible refine hK _ _ ?_); clear hK)
  | (clear hK; clear hK; clear hK; clear hK; clear hK; (with_reducible refine hK _ _ ?_); clear hK)
  | ((with_reducible refine And.intro ?_ ?_); omega)
  | (simp only [Zrd,Zrb,Zrc,Zqk]; simp only [go_sem,Nat.reduceAdd,Nat.reduceSub,Nat.reduceMul,Nat.reduceLT,Nat.reduceLeDiff,Nat.reduceEqDiff,if_true,eq_self])
  | ((first | simp only [lit3 hy,Option.map_some,List.drop_zero,go_sem] | simp only [ZqP hy,Zmc hy,Zov hy,go_sem,Nat.reduceAdd,Nat.reduceSub,Nat.reduceMul,Nat.reduceLT,Nat.reduceLeDiff,Nat.reduceEqDiff,if_true,eq_self] | simp only [Zmc hy,Zov hy,go_sem,Nat.reduceAdd,Nat.reduceSub,Nat.reduceMul,Nat.reduceLT,Nat.reduceLeDiff,Nat.reduceEqDiff,if_true,eq_self]))
  | ((with_reducible replace H:=HexL H); (with_reducible refine hL _ _ _ H ?_); (try simp only [ZU.T,ZU.M,U_s,U_z]); (try simp only [U_s,U_z]); (with_reducible refine cutS ?_); (first | (with_reducible apply ZiN) | (with_reducible apply ZiO) | (with_reducible apply ZiP) | (with_reducible apply ZiQ) | (with_reducible apply ZiR) | (with_reducible apply ZiS) | (with_reducible apply ZiT) | (with_reducible apply ZiU) | (with_reducible apply ZiV) | (with_reducible apply ZiW) | (with_reducible apply ZgY) | (with_reducible apply ZgZ) | (with_reducible apply Zg0)); (repeat' (first       | (with_reducible exact Zi3) | (with_reducible refine Zi4 ?_) | (with_reducible refine Zi5 ?_) | (with_reducible refine Zg1 ?_)       | (with_reducible refine ZiY ?_ ?_)       | (with_reducible exact Zf1)       | (with_reducible exact Zfx rfl)       | exact Zfx rfl       | (with_reducible exact Zf0)       | (with_reducible refine ZiX ?_ ?_)       | exact .c _ rfl       | exact .un _       | exact ZgW rfl rfl       | exact ZgV rfl rfl       | exact ZdN | exact ZeG       | exact ZeF rfl rfl       | (refine ZfB rfl ?_) | (refine Zfl rfl rfl ?_) | (refine ZfZ rfl rfl rfl ?_)       | (refine ZfX rfl rfl ?_)       | (with_reducible refine ZfY ?_) | (with_reducible refine Zg2 ?_)       | (with_reducible refine Zg3 ?_)       | (with_reducible exact Zfj)       | (with_reducible refine ZgU ?_ ?_)       | (with_reducible refine ZgT ?_)       | (with_reducible refine ZiK ?_)       | (with_reducible refine ZiZ ?_)       | (with_reducible exact ZeL)       | (refine Zd2 rfl ?_ ?_)       | (refine Zd3 rfl ?_) | (refine ZeK rfl ?_)       | (with_reducible refine Zd1 ?_)       | (with_reducible refine ZfU ?_)       | (with_reducible exact ZfT)       | (with_reducible refine ZfW ?_)       | (with_reducible exact ZiM)       | (with_reducible refine ZiL ?_ ?_)       | (with_reducible exact ZbY)       | (with_reducible refine ZcN ?_)       | exact ZbY       | (refine ZcN ?_)       | (refine ZfV ?_)       | (refine Zfk ?_)       | (simp only [cInt,cStr,ZhR,cB8,ZgJ,ZfR,Ze6,ZhD,ZhC,cLeg,Zm,Zr,Zg,ZF,Zv,ZbD,ZhB,cAct,Zfs,ZgR,Zge,Zgf,Zfr,ZfS,Ze5])       | (with_unfolding_all rfl))); (all_goals first | (exact Zd5 rfl) | exact none))
  | ((with_reducible replace H:=HexL H); clear hL; (with_reducible refine hL _ _ _ H ?_); (try simp only [ZU.T,ZU.M,U_s,U_z]); (try simp only [U_s,U_z]); (with_reducible refine cutS ?_); (first | (with_reducible apply ZiN) | (with_reducible apply ZiO) | (with_reducible apply ZiP) | (with_reducible apply ZiQ) | (with_reducible apply ZiR) | (with_reducible apply ZiS) | (with_reducible apply ZiT) | (with_reducible apply ZiU) | (with_reducible apply ZiV) | (with_reducible apply ZiW) | (with_reducible apply ZgY) | (with_reducible apply ZgZ) | (with_reducible apply Zg0)); (repeat' (first       | (with_reducible exact Zi3) | (with_reducible refine Zi4 ?_) | (with_reducible refine Zi5 ?_) | (with_reducible refine Zg1 ?_)       | (with_reducible refine ZiY ?_ ?_)       | (with_reducible exact Zf1)       | (with_reducible exact Zfx rfl)       | exact Zfx rfl       | (with_reducible exact Zf0)       | (with_reducible refine ZiX ?_ ?_)       | exact .c _ rfl       | exact .un _       | exact ZgW rfl rfl       | exact ZgV rfl rfl       | exact ZdN | exact ZeG       | exact ZeF rfl rfl       | (refine ZfB rfl ?_) | (refine Zfl rfl rfl ?_) | (refine ZfZ rfl rfl rfl ?_)       | (refine ZfX rfl rfl ?_)       | (with_reducible refine ZfY ?_) | (with_reducible refine Zg2 ?_)       | (with_reducible refine Zg3 ?_)       | (with_reducible exact Zfj)       | (with_reducible refine ZgU ?_ ?_)       | (with_reducible refine ZgT ?_)       | (with_reducible refine ZiK ?_)       | (with_reducible refine ZiZ ?_)       | (with_reducible exact ZeL)       | (refine Zd2 rfl ?_ ?_)       | (refine Zd3 rfl ?_) | (refine ZeK rfl ?_)       | (with_reducible refine Zd1 ?_)       | (with_reducible refine ZfU ?_)       | (with_reducible exact ZfT)       | (with_reducible refine ZfW ?_)       | (with_reducible exact ZiM)       | (with_reducible refine ZiL ?_ ?_)       | (with_reducible exact ZbY)       | (with_reducible refine ZcN ?_)       | exact ZbY       | (refine ZcN ?_)       | (refine ZfV ?_)       | (refine Zfk ?_)       | (simp only [cInt,cStr,ZhR,cB8,ZgJ,ZfR,Ze6,ZhD,ZhC,cLeg,Zm,Zr,Zg,ZF,Zv,ZbD,ZhB,cAct,Zfs,ZgR,Zge,Zgf,Zfr,ZfS,Ze5])       | (with_unfolding_all rfl))); (all_goals first | (exact Zd5 rfl) | exact none))
  | ((with_reducible refine jnX H hL ?_); (try simp only [U_s,U_z]); (with_reducible refine cutS ?_); (first | (with_reducible apply ZiN) | (with_reducible apply ZiO) | (with_reducible apply ZiP) | (with_reducible apply ZiQ) | (with_reducible apply ZiR) | (with_reducible apply ZiS) | (with_reducible apply ZiT) | (with_reducible apply ZiU) | (with_reducible apply ZiV) | (with_reducible apply ZiW) | (with_reducible apply ZgY) | (with_reducible apply ZgZ) | (with_reducible apply Zg0)); (repeat' (first       | (with_reducible exact Zi3) | (with_reducible refine Zi4 ?_) | (with_reducible refine Zi5 ?_) | (with_reducible refine Zg1 ?_)       | (with_reducible refine ZiY ?_ ?_)       | (with_reducible exact Zf1)       | (with_reducible exact Zfx rfl)       | exact Zfx rfl       | (with_reducible exact Zf0)       | (with_reducible refine ZiX ?_ ?_)       | exact .c _ rfl       | exact .un _       | exact ZgW rfl rfl       | exact ZgV rfl rfl       | exact ZdN | exact ZeG       | exact ZeF rfl rfl       | (refine ZfB rfl ?_) | (refine Zfl rfl rfl ?_) | (refine ZfZ rfl rfl rfl ?_)       | (refine ZfX rfl rfl ?_)       | (with_reducible refine ZfY ?_) | (with_reducible refine Zg2 ?_)       | (with_reducible refine Zg3 ?_)       | (with_reducible exact Zfj)       | (with_reducible refine ZgU ?_ ?_)       | (with_reducible refine ZgT ?_)       | (with_reducible refine ZiK ?_)       | (with_reducible refine ZiZ ?_)       | (with_reducible exact ZeL)       | (refine Zd2 rfl ?_ ?_)       | (refine Zd3 rfl ?_) | (refine ZeK rfl ?_)       | (with_reducible refine Zd1 ?_)       | (with_reducible refine ZfU ?_)       | (with_reducible exact ZfT)       | (with_reducible refine ZfW ?_)       | (with_reducible exact ZiM)       | (with_reducible refine ZiL ?_ ?_)       | (with_reducible exact ZbY)       | (with_reducible refine ZcN ?_)       | exact ZbY       | (refine ZcN ?_)       | (refine ZfV ?_)       | (refine Zfk ?_)       | (simp only [cInt,cStr,ZhR,cB8,ZgJ,ZfR,Ze6,ZhD,ZhC,cLeg,Zm,Zr,Zg,ZF,Zv,ZbD,ZhB,cAct,Zfs,ZgR,Zge,Zgf,Zfr,ZfS,Ze5])       | (with_unfolding_all rfl))); (all_goals first | (exact Zd5 rfl) | exact none))
  | (with_reducible exact (ZwC H).elim)
  | ((with_reducible replace H:=rgH H); obtain ⟨y_,hy,H⟩:=H; (first | simp only [lit3 hy,Option.map_some,List.drop_zero,go_sem] | simp only [ZqP hy,Zmc hy,Zov hy,go_sem,Nat.reduceAdd,Nat.reduceSub,Nat.reduceMul,Nat.reduceLT,Nat.reduceLeDiff,Nat.reduceEqDiff,if_true,eq_self] | simp only [Zmc hy,Zov hy,go_sem,Nat.reduceAdd,Nat.reduceSub,Nat.reduceMul,Nat.reduceLT,Nat.reduceLeDiff,Nat.reduceEqDiff,if_true,eq_self])))):p:=h
end Go.Proofs.YtmcdjilbkmhfoaaGreat
namespace Go.Proofs.YtmcdjilbkmhfoaaGreat
set_option maxRecDepth 10000
open Go.RowKit
set_option linter.unusedVariables false
set_option maxHeartbeats 16000000
def Zab (s:ByteArray) (s0:Int):Option (Int ⊕ (Unit ⊕ Bool)):=
 cond (decide (s0<(s.size:Int)))
 ((getB s s0).bind fun y1=>
 cond (decide (y1<65))
 (some (.inr (.inr false)))
 ((getB s s0).bind fun y2=>
 cond (decide (90<y2))
 (some (.inr (.inr false)))
 (some (.inl (w64 (s0+1))))))
 (some (.inr (.inl ())))
instance (s:ByteArray):ZU (Zab s):=⟨fun s0=>(vs s::.un::.un::vi s0::(U 19 [])),fun s0=>[]⟩
def Zb4 (s:ByteArray):Option Bool:=
 (Zl (Zab s) NN 0).bind (ZX (fun o0=>
 some (decide ((s.size:Int)=3))) (fun r=>some r))
instance (s:ByteArray):CT Tryz.prog (Zb4 s):=⟨251,[vs s],[],fun r=>vb r,fun r=>[],fun H=>by replace H:=H0 H; unfold Zb4 at H; exact Zh Tryz.func251 rfl Tryz.ntmps251 Tryz.results251 fun Q hQ hQn=>wk3⟩
def ZG (x:Int) (least:Int) (most:Int):Option Bool:=
 cond (decide (least≤x))
 (some (decide (x≤most)))
 (some false)
instance (x:Int) (least:Int) (most:Int):CT Tryz.prog (ZG x least most):=⟨71,[vi x,vi least,vi most],[],fun r=>vb r,fun r=>[],fun H=>by replace H:=H0 H; unfold ZG at H; exact Zh Tryz.func71 rfl Tryz.ntmps71 Tryz.results71 fun Q hQ hQn=>wk3⟩
def Zec (s:ByteArray) (s0:Int):Option (Int ⊕ (Unit ⊕ Bool)):=
 cond (decide (s0<3))
 ((getB s s0).bind fun y1=>
 (ZG (IntKind.i64.wrap y1) 65 90).bind fun y2=>
 cond (!y2)
 (some (.inr (.inr false)))
 (some (.inl (w64 (s0+1)))))
 (some (.inr (.inl ())))
instance (s:ByteArray):ZU (Zec s):=⟨fun s0=>(vs s::.un::.un::vi s0::(U 13 [])),fun s0=>[]⟩
def ZaT (s:ByteArray):Option Bool:=
 cond (!decide ((s.size:Int)=3))
 (some false)
 ((Zl (Zec s) NN 0).bind (ZX (fun o0=>
 some true) (fun r=>some r)))
instance (s:ByteArray):CT Tryz.prog (ZaT s):=⟨257,[vs s],[],fun r=>vb r,fun r=>[],fun H=>by replace H:=H0 H; unfold ZaT at H; exact Zh Tryz.func257 rfl Tryz.ntmps257 Tryz.results257 fun Q hQ hQn=>wk3⟩
def Zt (n:Int) (low:Int) (high:Int):Option Bool:=
 cond (decide (low≤n))
 (some (decide (n≤high)))
 (some false)
instance (n:Int) (low:Int) (high:Int):CT Tryz.prog (Zt n low high):=⟨81,[vi n,vi low,vi high],[],fun r=>vb r,fun r=>[],fun H=>by replace H:=H0 H; unfold Zt at H; exact Zh Tryz.func81 rfl Tryz.ntmps81 Tryz.results81 fun Q hQ hQn=>wk3⟩
end Go.Proofs.YtmcdjilbkmhfoaaGreat
namespace Go.Proofs.YtmcdjilbkmhfoaaGreat
set_option maxRecDepth 10000
open Go.RowKit
set_option linter.unusedVariables false
set_option linter.unusedSimpArgs false
theorem Ztu (n l h:Int):Zt n l h=some (decide (l≤n) && decide (n≤h)):=by
 unfold Zt; cases decide (l≤n) <;> rfl
theorem Zbb (n l h:Int):ZG n l h=some (decide (l≤n) && decide (n≤h)):=by
 unfold ZG; cases decide (l≤n) <;> rfl
theorem Zdy:@Zt=@ZG:=by funext n l h; rw [Ztu,Zbb]
theorem Zuo {s:ByteArray} {i c:Int} (h:getB s i=some c):0≤c∧c≤255:=by
 unfold getB at h
 split at h
 ·cases h
  unfold ZlT
  cases hb:s[i.toNat]? with
  | none=>simp
  | some b=>
   have:=b.toNat_lt
   simp only [Option.map_some,Option.getD_some]
   omega
 ·cases h
theorem Zrj {s:ByteArray} (hs:s.size=3):Zab s=Zec s:=by
 funext i
 unfold Zab Zec
 rw [hs]
 cases hi:decide (i<3) with
 | false=>simp [hi]
 | true=>
  simp only [show ((3:Nat):Int)=3 from rfl,hi,cond_true]
  cases hg:getB s i with
  | none=>rfl
  | some y=>
   obtain ⟨h0,h1⟩:=Zuo hg
   simp only [Option.bind_some,hg]
   rw [show IntKind.i64.wrap y=y from Zp (by omega),Zbb]
   simp only [Option.bind_some]
   by_cases h2:y<65
   ·simp [h2,show ¬ (65≤y) by omega]
   ·by_cases h3:90<y
    ·simp [h2,h3,show ¬ (y≤90) by omega]
    ·simp [h2,h3,show 65≤y by omega,show y≤90 by omega]
theorem ZqI {s:ByteArray} {i:Nat} (h:i<s.size):∃ c,getB s (i:Int)=some c:=by
 unfold getB; exact ⟨_,if_pos ⟨by omega,by omega⟩⟩
theorem ZnG {s:ByteArray} (hs:s.size≤1152921504606846000):∀ (k i N:Nat),i+k=s.size→k<N→∃ o,Zl (Zab s) N (i:Int)=some o∧(o=.inl ()∨o=.inr false):=by
 intro k
 induction k with
 | zero=>
  intro i N hi hk
  cases N with
  | zero=>omega
  | succ N=>exact ⟨.inl (),by simp [Zl,Zab,show ¬ ((i:Int)<s.size) by omega],.inl rfl⟩
 | succ k ih=>
  intro i N hi hk
  cases N with
  | zero=>omega
  | succ N=>
   obtain ⟨c,hc⟩:=ZqI (s:=s) (i:=i) (by omega)
   have hw:=Z9 (i:=i) (n:=s.size) (by omega) (by omega)
   by_cases h2:c<65
   ·exact ⟨.inr false,by simp [Zl,Zab,show (i:Int)<s.size by omega,hc,h2],.inr rfl⟩
   ·by_cases h3:90<c
    ·exact ⟨.inr false,by simp [Zl,Zab,show (i:Int)<s.size by omega,hc,h2,h3],.inr rfl⟩
    ·obtain ⟨o,ho,hoo⟩:=ih (i+1) N (by omega) (by omega)
     refine ⟨o,?_,hoo⟩
     simp only [Zl,Zab,decide_eq_true (show (i:Int)<s.size by omega),cond_true,hc,Option.bind_some,decide_eq_false h2,decide_eq_false h3,cond_false,hw]
     exact ho
theorem Zhi {s:ByteArray} (hs:s.size≤1152921504606846000):Zb4 s=ZaT s∧∃ b,ZaT s=some b:=by
 obtain ⟨o,ho,hoo⟩:=ZnG hs s.size 0 NN (by omega) (by unfold NN; omega)
 have ho':Zl (Zab s) NN 0=some o:=ho
 by_cases h3:s.size=3
 ·have e:ZaT s=(Zl (Zab s) NN 0).bind (ZX (fun _=>some true) (fun r=>some r)):=by
   unfold ZaT; rw [Zrj h3,h3]; rfl
  have e2:Zb4 s=(Zl (Zab s) NN 0).bind (ZX (fun _=>some (decide ((s.size:Int)=3))) (fun r=>some r)):=rfl
  rw [e,e2,ho',h3]
  rcases hoo with rfl | rfl
  ·exact ⟨rfl,_,rfl⟩
  ·exact ⟨rfl,_,rfl⟩
 ·have e:ZaT s=some false:=by unfold ZaT; rw [decide_eq_false (by omega)]; rfl
  have e2:Zb4 s=some false:=by
   unfold Zb4; rw [ho']
   rcases hoo with rfl | rfl
   ·show some _=some _; rw [decide_eq_false (by omega)]
   ·rfl
  exact ⟨by rw [e,e2],_,e⟩
def B60:Nat:=1152921504606846000
end Go.Proofs.YtmcdjilbkmhfoaaGreat
namespace Go.Proofs.YtmcdjilbkmhfoaaGreat
set_option maxRecDepth 10000
open Go.RowKit
set_option linter.unusedVariables false
set_option maxHeartbeats 16000000
def Zfn (l:YLeg):Option Bool:=
 (Zb4 l.from_).bind fun y1=>
 cond y1
 ((Zb4 l.to_).bind fun y2=>
 cond y2
 (cond (!decide (l.from_=l.to_))
 ((Zt l.start 0 1439).bind fun y3=>
 cond y3
 ((Zt l.takes 1 4320).bind fun y4=>
 cond y4
 ((Zt l.days 1 127).bind fun y5=>
 cond y5
 ((Zt l.room 0 1000000).bind fun y6=>
 some y6)
 (some false))
 (some false))
 (some false))
 (some false))
 (some false))
 (some false)
instance (l:YLeg):CT Tryz.prog (Zfn l):=⟨215,[.ag (cLeg l)],[],fun r=>vb r,fun r=>[],fun H=>by replace H:=H0 H; unfold Zfn at H; exact Zh Tryz.func215 rfl Tryz.ntmps215 Tryz.results215 fun Q hQ hQn=>wk3⟩
def Zdi (n:Za) (s0:Int):Option (Int ⊕ (Unit ⊕ Bool)):=
 cond (decide (s0<(n.legs.length:Int)))
 ((getI n.legs s0).bind fun y1=>
 (Zfn y1).bind fun y2=>
 cond (!y2)
 (some (.inr (.inr false)))
 (some (.inl (w64 (s0+1)))))
 (some (.inr (.inl ())))
instance (n:Za):ZU (Zdi n):=⟨fun s0=>(.un::.be 0 0 0::(U 6 (.sl (n.legs.map cLeg)::vi (n.legs.length:Int)::vi s0::(U 48 [])))),fun s0=>[some ⟨35,3,[[.sl (n.legs.map cLeg),.sl (n.off.map cInt),vi n.change]]⟩]⟩
def Zdj (n:Za) (s1:Int):Option (Int ⊕ (Unit ⊕ Bool)):=
 cond (decide (s1<(n.off.length:Int)))
 ((getI n.off s1).bind fun y3=>
 (Zt y3 0 60).bind fun y4=>
 cond (!y4)
 (some (.inr (.inr false)))
 (cond (decide (0<s1))
 ((getI n.off (w64 (s1-1))).bind fun y5=>
 cond (decide (y3≤y5))
 (some (.inr (.inr false)))
 (some (.inl (w64 (s1+1)))))
 (some (.inl (w64 (s1+1))))))
 (some (.inr (.inl ())))
instance (n:Za):ZU (Zdj n):=⟨fun s1=>(.un::.be 0 0 0::(U 17 (.sl (n.off.map cInt)::vi (n.off.length:Int)::vi s1::(U 37 [])))),fun s1=>[some ⟨35,3,[[.sl (n.legs.map cLeg),.sl (n.off.map cInt),vi n.change]]⟩]⟩
def ZY (n:Za):Option Bool:=
 (Zl (Zdi n) NN 0).bind (ZX (fun o0=>
 (Zl (Zdj n) NN 0).bind (ZX (fun o1=>
 cond (decide ((n.legs.length:Int)≤20))
 (cond (decide ((n.off.length:Int)≤10))
 ((Zt n.change 0 240).bind fun y6=>
 some y6)
 (some false))
 (some false)) (fun r=>some r))) (fun r=>some r))
instance (n:Za):CT Tryz.prog (ZY n):=⟨150,[.ag (Zm n)],[],fun r=>vb r,fun r=>[],fun H=>by replace H:=H0 H; unfold ZY at H; exact Zh Tryz.func150 rfl Tryz.ntmps150 Tryz.results150 fun Q hQ hQn=>wk3⟩
def ZaP (l:YLeg):Option Bool:=
 (ZaT l.from_).bind fun y1=>
 cond y1
 ((ZaT l.to_).bind fun y2=>
 cond y2
 (cond (!decide (l.from_=l.to_))
 ((ZG l.start 0 1439).bind fun y3=>
 cond y3
 ((ZG l.takes 1 4320).bind fun y4=>
 cond y4
 ((ZG l.days 1 127).bind fun y5=>
 cond y5
 ((ZG l.room 0 1000000).bind fun y6=>
 some y6)
 (some false))
 (some false))
 (some false))
 (some false))
 (some false))
 (some false)
instance (l:YLeg):CT Tryz.prog (ZaP l):=⟨232,[.ag (cLeg l)],[],fun r=>vb r,fun r=>[],fun H=>by replace H:=H0 H; unfold ZaP at H; exact Zh Tryz.func232 rfl Tryz.ntmps232 Tryz.results232 fun Q hQ hQn=>wk3⟩
def ZA (n:Za) (s0:Int):Option (Int ⊕ (Unit ⊕ Bool)):=
 cond (decide (s0<(n.legs.length:Int)))
 ((getI n.legs s0).bind fun y1=>
 (ZaP y1).bind fun y2=>
 cond (!y2)
 (some (.inr (.inr false)))
 (some (.inl (w64 (s0+1)))))
 (some (.inr (.inl ())))
instance (n:Za):ZU (ZA n):=⟨fun s0=>(.un::.be 0 0 0::.un::vi s0::(U 62 [])),fun s0=>[some ⟨35,3,[[.sl (n.legs.map cLeg),.sl (n.off.map cInt),vi n.change]]⟩]⟩
def ZB (n:Za) (s1:Int):Option (Int ⊕ (Unit ⊕ Bool)):=
 cond (decide (s1<(n.off.length:Int)))
 ((getI n.off s1).bind fun y3=>
 (ZG y3 0 60).bind fun y4=>
 cond (!y4)
 (some (.inr (.inr false)))
 (cond (decide (0<s1))
 ((getI n.off (w64 (s1-1))).bind fun y5=>
 (getI n.off s1).bind fun y6=>
 cond (decide (y6≤y5))
 (some (.inr (.inr false)))
 (some (.inl (w64 (s1+1)))))
 (some (.inl (w64 (s1+1))))))
 (some (.inr (.inl ())))
instance (n:Za):ZU (ZB n):=⟨fun s1=>(.un::.be 0 0 0::.un::.un::vi s1::(U 61 [])),fun s1=>[some ⟨35,3,[[.sl (n.legs.map cLeg),.sl (n.off.map cInt),vi n.change]]⟩]⟩
def Zi (n:Za):Option Bool:=
 (Zl (ZA n) NN 0).bind (ZX (fun o0=>
 (Zl (ZB n) NN 0).bind (ZX (fun o1=>
 cond (decide ((n.legs.length:Int)≤20))
 (cond (decide ((n.off.length:Int)≤10))
 ((ZG n.change 0 240).bind fun y7=>
 some y7)
 (some false))
 (some false)) (fun r=>some r))) (fun r=>some r))
instance (n:Za):CT Tryz.prog (Zi n):=⟨181,[.ag (Zm n)],[],fun r=>vb r,fun r=>[],fun H=>by replace H:=H0 H; unfold Zi at H; exact Zh Tryz.func181 rfl Tryz.ntmps181 Tryz.results181 fun Q hQ hQn=>wk3⟩
def ZI (n:Za) (t:Ze):Option Int:=
 (getI n.legs t.leg).bind fun y1=>
 some (w64 ((w64 (t.day*1440))+y1.start))
instance (n:Za) (t:Ze):CT Tryz.prog (ZI n t):=⟨125,[.ag (Zm n),.ag (Zr t)],[],fun r=>vi r,fun r=>[],fun H=>by replace H:=H0 H; unfold ZI at H; exact Zh Tryz.func125 rfl Tryz.ntmps125 Tryz.results125 fun Q hQ hQn=>wk3⟩
def ZL (n:Za) (t:Ze):Option Int:=
 (ZI n t).bind fun y1=>
 (getI n.legs t.leg).bind fun y2=>
 some (w64 (y1+y2.takes))
instance (n:Za) (t:Ze):CT Tryz.prog (ZL n t):=⟨121,[.ag (Zm n),.ag (Zr t)],[],fun r=>vi r,fun r=>[],fun H=>by replace H:=H0 H; unfold ZL at H; exact Zh Tryz.func121 rfl Tryz.ntmps121 Tryz.results121 fun Q hQ hQn=>wk3⟩
def Zo (n:Za) (t:Ze):Option Int:=
 (getI n.legs t.leg).bind fun y1=>
 some (w64 ((w64 (t.day*1440))+y1.start))
instance (n:Za) (t:Ze):CT Tryz.prog (Zo n t):=⟨119,[.ag (Zm n),.ag (Zr t)],[],fun r=>vi r,fun r=>[],fun H=>by replace H:=H0 H; unfold Zo at H; exact Zh Tryz.func119 rfl Tryz.ntmps119 Tryz.results119 fun Q hQ hQn=>wk3⟩
def Zn (n:Za) (t:Ze):Option Int:=
 (Zo n t).bind fun y1=>
 (getI n.legs t.leg).bind fun y2=>
 some (w64 (y1+y2.takes))
instance (n:Za) (t:Ze):CT Tryz.prog (Zn n t):=⟨164,[.ag (Zm n),.ag (Zr t)],[],fun r=>vi r,fun r=>[],fun H=>by replace H:=H0 H; unfold Zn at H; exact Zh Tryz.func164 rfl Tryz.ntmps164 Tryz.results164 fun Q hQ hQn=>wk3⟩
end Go.Proofs.YtmcdjilbkmhfoaaGreat
namespace Go.Proofs.YtmcdjilbkmhfoaaGreat
set_option maxRecDepth 10000
open Go.RowKit
set_option linter.unusedVariables false
set_option linter.unusedSimpArgs false
theorem Ze2:@ZI=@Zo:=rfl
theorem Zgx:@ZL=@Zn:=rfl
def Zmh (l:YLeg):Prop:=l.from_.size≤B60∧l.to_.size≤B60
theorem Zjm {l:YLeg} (h:Zmh l):Zfn l=ZaP l∧∃ b,ZaP l=some b:=by
 obtain ⟨e1,b1,s1⟩:=Zhi (s:=l.from_) h.1
 obtain ⟨e2,b2,s2⟩:=Zhi (s:=l.to_) h.2
 constructor
 ·unfold Zfn ZaP; rw [e1,e2,Zdy]
 ·unfold ZaP
  rw [s1,s2]
  simp only [Option.bind_some,Zbb]
  cases b1 <;> cases b2 <;> cases (decide (l.from_=l.to_)) <;> cases (decide (0≤l.start) && decide (l.start≤1439)) <;> cases (decide (1≤l.takes) && decide (l.takes≤4320)) <;> cases (decide (1≤l.days) && decide (l.days≤127)) <;> exact ⟨_,rfl⟩
structure ZV (n:Za):Prop where
 legs:n.legs.length≤1048576
 off:n.off.length≤1048576
 leg:∀ l∈n.legs,Zmh l
theorem Zgy {α:Type} {xs:List α} {i:Int} {x:α} (h:getI xs i=some x):x∈xs:=List.mem_of_getElem? (ZdO h).2
theorem ZsQ {n:Za} (h:ZV n):Zdi n=ZA n:=by
 funext i
 unfold Zdi ZA
 cases hg:getI n.legs i with
 | none=>rfl
 | some y=>simp only [Option.bind_some,(Zjm (h.leg y (Zgy hg))).1]
theorem ZsR {n:Za}:Zdj n=ZB n:=by
 funext i
 unfold Zdj ZB
 rw [Zdy]
 cases hg:getI n.off i with
 | none=>rfl
 | some y=>simp only [Option.bind_some]
theorem ZwV {n:Za} (h:ZV n):∃ o,Zl (ZA n) NN 0=some o:=by
 refine ZoA (n:=n.legs.length) (by have:=h.legs; unfold NN; omega) (fun i hi=>?_) ⟨_,by simp [ZA]; rfl⟩
 have hw:=Z9 hi (by have:=h.legs; omega)
 have hg:getI n.legs (i:Int)=some n.legs[i]:=by rw [Zq]; exact List.getElem?_eq_getElem hi
 obtain ⟨b,hb⟩:=(Zjm (h.leg _ (List.getElem_mem hi))).2
 cases b with
 | true=>exact Zvm (by simp only [ZA,decide_eq_true (show (i:Int)<n.legs.length by omega),cond_true,hg,Option.bind_some,hb,hw,Bool.not_true,cond_false])
 | false=>exact Zr6 (by simp only [ZA,decide_eq_true (show (i:Int)<n.legs.length by omega),cond_true,hg,Option.bind_some,hb,Bool.not_false,cond_true]; rfl)
theorem ZwW {n:Za} (h:ZV n):∃ o,Zl (ZB n) NN 0=some o:=by
 refine ZoA (n:=n.off.length) (by have:=h.off; unfold NN; omega) (fun i hi=>?_) ⟨_,by simp [ZB]; rfl⟩
 have hw:=Z9 hi (by have:=h.off; omega)
 have hg:getI n.off (i:Int)=some n.off[i]:=by rw [Zq]; exact List.getElem?_eq_getElem hi
 have hd:=decide_eq_true (show (i:Int)<n.off.length by omega)
 cases hb:decide (0≤n.off[i]) && decide (n.off[i]≤60) with
 | false=>exact Zr6 (by simp only [ZB,hd,cond_true,hg,Option.bind_some,Zbb,hb,Bool.not_false]; rfl)
 | true=>
  by_cases h0:0<(i:Int)
  ·have hw2:w64 ((i:Int)-1)=((i-1:Nat):Int):=by rw [Zp (by have:=h.off; omega)]; omega
   have hg2:getI n.off ((i-1:Nat):Int)=some n.off[i-1]:=by rw [Zq]; exact List.getElem?_eq_getElem (by omega)
   cases hc:decide (n.off[i]≤n.off[i-1]) with
   | true=>exact Zr6 (by simp only [ZB,hd,cond_true,hg,Option.bind_some,Zbb,hb,Bool.not_true,cond_false,decide_eq_true h0,hw2,hg2,hc]; rfl)
   | false=>exact Zvm (by simp only [ZB,hd,cond_true,hg,Option.bind_some,Zbb,hb,Bool.not_true,cond_false,decide_eq_true h0,hw2,hg2,hc,hw])
  ·exact Zvm (by simp only [ZB,hd,cond_true,hg,Option.bind_some,Zbb,hb,Bool.not_true,cond_false,decide_eq_false h0,hw])
theorem Zba {n:Za} (h:ZV n):ZY n=Zi n∧∃ b,Zi n=some b:=by
 constructor
 ·unfold ZY Zi; rw [ZsQ h,ZsR,Zdy]
 ·obtain ⟨o0,h0⟩:=ZwV h
  obtain ⟨o1,h1⟩:=ZwW h
  unfold Zi
  rw [h0,h1]
  simp only [Option.bind_some,Zbb]
  rcases o0 with o0 | o0
  ·rcases o1 with o1 | o1
   ·simp only [ZX]
    cases decide ((n.legs.length:Int)≤20) <;> cases decide ((n.off.length:Int)≤10) <;> exact ⟨_,rfl⟩
   ·exact ⟨_,rfl⟩
  ·exact ⟨_,rfl⟩
end Go.Proofs.YtmcdjilbkmhfoaaGreat
namespace Go.Proofs.YtmcdjilbkmhfoaaGreat
set_option maxRecDepth 10000
open Go.RowKit
set_option linter.unusedVariables false
set_option maxHeartbeats 16000000
def Zet (n:Za) (day:Int) (s0:Int):Option (Int ⊕ (Unit ⊕ Bool)):=
 cond (decide (s0<(n.off.length:Int)))
 ((getI n.off s0).bind fun y3=>
 cond (decide (y3=day))
 (some (.inr (.inr false)))
 (some (.inl (w64 (s0+1)))))
 (some (.inr (.inl ())))
instance (n:Za) (day:Int):ZU (Zet n day):=⟨fun s0=>(.un::.un::vi day::(U 34 (.sl (n.off.map cInt)::vi (n.off.length:Int)::vi s0::(U 7 [])))),fun s0=>[]⟩
def Zdk (n:Za) (leg:Int) (day:Int):Option Bool:=
 cond (decide (leg<0))
 (some false)
 (cond (decide ((n.legs.length:Int)≤leg))
 (some false)
 ((Zt day 0 60).bind fun y1=>
 cond (!y1)
 (some false)
 ((getI n.legs leg).bind fun y2=>
 (chk (decide (0≤(Int.tmod day 7)))).bind fun _=>
 cond (decide ((IntKind.i64.wrap (BitVec.ofInt IntKind.i64.bits (Int.fdiv y2.days (2 ^ (min (Int.toNat (Int.tmod day 7)) IntKind.i64.bits))) &&& BitVec.ofInt IntKind.i64.bits 1).toNat)=0))
 (some false)
 ((Zl (Zet n day) NN 0).bind (ZX (fun o0=>
 some true) (fun r=>some r))))))
instance (n:Za) (leg:Int) (day:Int):CT Tryz.prog (Zdk n leg day):=⟨157,[.ag (Zm n),vi leg,vi day],[],fun r=>vb r,fun r=>[],fun H=>by replace H:=H0 H; unfold Zdk at H; exact Zh Tryz.func157 rfl Tryz.ntmps157 Tryz.results157 fun Q hQ hQn=>wk3⟩
def ZeW (n:Za) (leg:Int) (day:Int):Option Bool:=
 (ZY n).bind fun y1=>
 cond y1
 ((Zdk n leg day).bind fun y2=>
 some y2)
 (some false)
instance (n:Za) (leg:Int) (day:Int):CT Tryz.prog (ZeW n leg day):=⟨193,[.ag (Zm n),vi leg,vi day],[],fun r=>vb r,fun r=>[],fun H=>by replace H:=H0 H; unfold ZeW at H; exact Zh Tryz.func193 rfl Tryz.ntmps193 Tryz.results193 fun Q hQ hQn=>wk3⟩
def Zai (n:Za) (t:Ze):Option Bool:=
 (ZeW n t.leg t.day).bind fun y1=>
 some y1
instance (n:Za) (t:Ze):CT Tryz.prog (Zai n t):=⟨124,[.ag (Zm n),.ag (Zr t)],[],fun r=>vb r,fun r=>[],fun H=>by replace H:=H0 H; unfold Zai at H; exact Zh Tryz.func124 rfl Tryz.ntmps124 Tryz.results124 fun Q hQ hQn=>wk3⟩
def Ze0 (l:List Int) (x:Int) (s0:Int):Option (Int ⊕ (Unit ⊕ Bool)):=
 cond (decide (s0<(l.length:Int)))
 ((getI l s0).bind fun y1=>
 cond (decide (y1=x))
 (some (.inr (.inr true)))
 (some (.inl (w64 (s0+1)))))
 (some (.inr (.inl ())))
instance (l:List Int) (x:Int):ZU (Ze0 l x):=⟨fun s0=>(.sl (l.map cInt)::vi x::(U 3 (vi s0::(U 12 [])))),fun s0=>[]⟩
def Zdc (l:List Int) (x:Int):Option Bool:=
 (Zl (Ze0 l x) NN 0).bind (ZX (fun o0=>
 some false) (fun r=>some r))
instance (l:List Int) (x:Int):CT Tryz.prog (Zdc l x):=⟨184,[.sl (l.map cInt),vi x],[],fun r=>vb r,fun r=>[],fun H=>by replace H:=H0 H; unfold Zdc at H; exact Zh Tryz.func184 rfl Tryz.ntmps184 Tryz.results184 fun Q hQ hQn=>wk3⟩
def ZP (n:Za) (leg:Int) (day:Int):Option Bool:=
 (ZG leg 0 (w64 ((n.legs.length:Int)-1))).bind fun y1=>
 cond y1
 ((ZG day 0 60).bind fun y2=>
 cond y2
 ((getI n.legs leg).bind fun y3=>
 (chk (decide (0≤(Int.tmod day 7)))).bind fun _=>
 cond (decide ((IntKind.i64.wrap (BitVec.ofInt IntKind.i64.bits (Int.fdiv y3.days (2 ^ (min (Int.toNat (Int.tmod day 7)) IntKind.i64.bits))) &&& BitVec.ofInt IntKind.i64.bits 1).toNat)=1))
 ((Zdc n.off day).bind fun y4=>
 some (!y4))
 (some false))
 (some false))
 (some false)
instance (n:Za) (leg:Int) (day:Int):CT Tryz.prog (ZP n leg day):=⟨108,[.ag (Zm n),vi leg,vi day],[],fun r=>vb r,fun r=>[],fun H=>by replace H:=H0 H; unfold ZP at H; exact Zh Tryz.func108 rfl Tryz.ntmps108 Tryz.results108 fun Q hQ hQn=>wk3⟩
def ZcD (n:Za) (leg:Int) (day:Int):Option Bool:=
 (Zi n).bind fun y1=>
 cond y1
 ((ZP n leg day).bind fun y2=>
 some y2)
 (some false)
instance (n:Za) (leg:Int) (day:Int):CT Tryz.prog (ZcD n leg day):=⟨118,[.ag (Zm n),vi leg,vi day],[],fun r=>vb r,fun r=>[],fun H=>by replace H:=H0 H; unfold ZcD at H; exact Zh Tryz.func118 rfl Tryz.ntmps118 Tryz.results118 fun Q hQ hQn=>wk3⟩
def Zaj (n:Za) (t:Ze):Option Bool:=
 (ZcD n t.leg t.day).bind fun y1=>
 some y1
instance (n:Za) (t:Ze):CT Tryz.prog (Zaj n t):=⟨31,[.ag (Zm n),.ag (Zr t)],[],fun r=>vb r,fun r=>[],fun H=>by replace H:=H0 H; unfold Zaj at H; exact Zh Tryz.func31 rfl Tryz.ntmps31 Tryz.results31 fun Q hQ hQn=>wk3⟩
def Zd8 (l:List Ze) (t:Ze) (s0:Int):Option (Int ⊕ (Unit ⊕ Bool)):=
 cond (decide (s0<(l.length:Int)))
 ((getI l s0).bind fun y1=>
 cond (decide (y1=t))
 (some (.inr (.inr true)))
 (some (.inl (w64 (s0+1)))))
 (some (.inr (.inl ())))
instance (l:List Ze) (t:Ze):ZU (Zd8 l t):=⟨fun s0=>(U 3 (.be 0 0 0::(U 3 (.sl (l.map Zr)::vi (l.length:Int)::vi s0::(U 7 []))))),fun s0=>[some ⟨55,2,[[vi t.leg,vi t.day]]⟩]⟩
def ZbB (l:List Ze) (t:Ze):Option Bool:=
 (Zl (Zd8 l t) NN 0).bind (ZX (fun o0=>
 some false) (fun r=>some r))
instance (l:List Ze) (t:Ze):CT Tryz.prog (ZbB l t):=⟨126,[.sl (l.map Zr),.ag (Zr t)],[],fun r=>vb r,fun r=>[],fun H=>by replace H:=H0 H; unfold ZbB at H; exact Zh Tryz.func126 rfl Tryz.ntmps126 Tryz.results126 fun Q hQ hQn=>wk3⟩
def Zf2 (l:List Ze) (t:Ze) (s0:Int):Option (Int ⊕ (Unit ⊕ Bool)):=
 cond (decide (s0<(l.length:Int)))
 ((getI l s0).bind fun y1=>
 cond (decide (y1=t))
 (some (.inr (.inr true)))
 (some (.inl (w64 (s0+1)))))
 (some (.inr (.inl ())))
instance (l:List Ze) (t:Ze):ZU (Zf2 l t):=⟨fun s0=>(.sl (l.map Zr)::.un::.un::.be 0 0 0::.un::vi s0::(U 12 [])),fun s0=>[some ⟨55,2,[[vi t.leg,vi t.day]]⟩]⟩
def Zam (l:List Ze) (t:Ze):Option Bool:=
 (Zl (Zf2 l t) NN 0).bind (ZX (fun o0=>
 some false) (fun r=>some r))
instance (l:List Ze) (t:Ze):CT Tryz.prog (Zam l t):=⟨109,[.sl (l.map Zr),.ag (Zr t)],[],fun r=>vb r,fun r=>[],fun H=>by replace H:=H0 H; unfold Zam at H; exact Zh Tryz.func109 rfl Tryz.ntmps109 Tryz.results109 fun Q hQ hQn=>wk3⟩
def Zey (l:List Zc) (t:Ze) (s0:Int × Int):Option ((Int × Int) ⊕ Int):=
 cond (decide (s0.2<(l.length:Int)))
 ((getI l s0.2).bind fun y1=>
 cond (decide (y1.trip=t))
 (some (.inl ((w64 (s0.1+y1.weight)),(w64 (s0.2+1)))))
 (some (.inl (s0.1,(w64 (s0.2+1))))))
 (some (.inr s0.1))
instance (l:List Zc) (t:Ze):ZU (Zey l t):=⟨fun s0=>(U 3 (.be 0 0 0::.un::vi s0.1::.un::.un::.sl (l.map Zg)::vi (l.length:Int)::vi s0.2::(U 13 []))),fun s0=>[some ⟨55,2,[[vi t.leg,vi t.day]]⟩]⟩
def Zcy (l:List Zc) (t:Ze):Option Int:=
 (Zl (Zey l t) NN (0,0)).bind (fun o0=>
 some o0)
instance (l:List Zc) (t:Ze):CT Tryz.prog (Zcy l t):=⟨36,[.sl (l.map Zg),.ag (Zr t)],[],fun r=>vi r,fun r=>[],fun H=>by replace H:=H0 H; unfold Zcy at H; exact Zh Tryz.func36 rfl Tryz.ntmps36 Tryz.results36 fun Q hQ hQn=>wk3⟩
def ZaV (l:List Zc) (t:Ze) (s0:Int × Int):Option ((Int × Int) ⊕ Int):=
 cond (decide (s0.2<(l.length:Int)))
 ((getI l s0.2).bind fun y1=>
 cond (decide (y1.trip=t))
 ((getI l s0.2).bind fun y2=>
 some (.inl ((w64 (s0.1+y2.weight)),(w64 (s0.2+1)))))
 (some (.inl (s0.1,(w64 (s0.2+1))))))
 (some (.inr s0.1))
instance (l:List Zc) (t:Ze):ZU (ZaV l t):=⟨fun s0=>(.sl (l.map Zg)::.un::.un::.be 0 0 0::.un::vi s0.1::vi s0.2::(U 21 [])),fun s0=>[some ⟨55,2,[[vi t.leg,vi t.day]]⟩]⟩
def Zaq (l:List Zc) (t:Ze):Option Int:=
 (Zl (ZaV l t) NN (0,0)).bind (fun o0=>
 some o0)
instance (l:List Zc) (t:Ze):CT Tryz.prog (Zaq l t):=⟨183,[.sl (l.map Zg),.ag (Zr t)],[],fun r=>vi r,fun r=>[],fun H=>by replace H:=H0 H; unfold Zaq at H; exact Zh Tryz.func183 rfl Tryz.ntmps183 Tryz.results183 fun Q hQ hQn=>wk3⟩
end Go.Proofs.YtmcdjilbkmhfoaaGreat
namespace Go.Proofs.YtmcdjilbkmhfoaaGreat
set_option maxRecDepth 10000
open Go.RowKit
set_option linter.unusedVariables false
set_option linter.unusedSimpArgs false
theorem Zli {l:List Int} (h:l.length≤1048576) (x:Int):Zdc l x=some (l.any fun y=>decide (y=x)):=by
 unfold Zdc
 rw [Zh0 (xs:=l) (p:=fun y=>decide (y=x)) (r:=.inr true) (e:=.inl ()) (fun i hi=>?_) (by simp [Ze0]) (by unfold NN; omega)]
 ·cases l.any fun y=>decide (y=x) <;> rfl
 ·have hw:=Z9 hi (by omega)
  have hg:getI l (i:Int)=some l[i]:=by rw [Zq]; exact List.getElem?_eq_getElem hi
  simp only [Ze0,decide_eq_true (show (i:Int)<l.length by omega),cond_true,hg,Option.bind_some,hw]
  cases decide (l[i]=x) <;> rfl
theorem ZdP {l:List Ze} (h:l.length≤1048576) (x:Ze):ZbB l x=some (l.any fun y=>decide (y=x)):=by
 unfold ZbB
 rw [Zh0 (xs:=l) (p:=fun y=>decide (y=x)) (r:=.inr true) (e:=.inl ()) (fun i hi=>?_) (by simp [Zd8]) (by unfold NN; omega)]
 ·cases l.any fun y=>decide (y=x) <;> rfl
 ·have hw:=Z9 hi (by omega)
  have hg:getI l (i:Int)=some l[i]:=by rw [Zq]; exact List.getElem?_eq_getElem hi
  simp only [Zd8,decide_eq_true (show (i:Int)<l.length by omega),cond_true,hg,Option.bind_some,hw]
  cases decide (l[i]=x) <;> rfl
theorem Zdf:@Zam=@ZbB:=rfl
theorem Zpj {n:Za} (h:n.off.length≤1048576) (x:Int):(Zl (Zet n x) NN 0).bind (ZX (fun _=>some true) (fun r=>some r))=some (!(n.off.any fun y=>decide (y=x))):=by
 rw [Zh0 (xs:=n.off) (p:=fun y=>decide (y=x)) (r:=.inr false) (e:=.inl ()) (fun i hi=>?_) (by simp [Zet]) (by unfold NN; omega)]
 ·cases n.off.any fun y=>decide (y=x) <;> rfl
 ·have hw:=Z9 hi (by omega)
  have hg:getI n.off (i:Int)=some n.off[i]:=by rw [Zq]; exact List.getElem?_eq_getElem hi
  simp only [Zet,decide_eq_true (show (i:Int)<n.off.length by omega),cond_true,hg,Option.bind_some,hw]
  cases decide (n.off[i]=x) <;> rfl
def ZoG (x:Int):Int:=IntKind.i64.wrap (BitVec.ofInt IntKind.i64.bits x &&& BitVec.ofInt IntKind.i64.bits 1).toNat
theorem Zq2 (x:Int):ZoG x=0∨ZoG x=1:=by
 unfold ZoG
 have h:(BitVec.ofInt IntKind.i64.bits x &&& BitVec.ofInt IntKind.i64.bits 1).toNat≤1:=by
  rw [BitVec.toNat_and]
  refine Nat.le_trans Nat.and_le_right ?_
  decide
 rw [show IntKind.i64.wrap ((BitVec.ofInt IntKind.i64.bits x &&& BitVec.ofInt IntKind.i64.bits 1).toNat:Int)=((BitVec.ofInt IntKind.i64.bits x &&& BitVec.ofInt IntKind.i64.bits 1).toNat:Int) from Zp (by omega)]
 omega
theorem Zfu {n:Za} (h:ZV n) (leg day:Int):Zdk n leg day=ZP n leg day∧∃ b,ZP n leg day=some b:=by
 have hl:=h.legs
 have hw:w64 ((n.legs.length:Int)-1)=n.legs.length-1:=Zp (by omega)
 unfold Zdk ZP
 rw [Zdy,hw,Zbb,Zbb]
 simp only [Option.bind_some]
 by_cases h1:leg<0
 ·simp only [decide_eq_true h1,decide_eq_false (show ¬ 0≤leg by omega),cond_true,Bool.false_and,cond_false]
  exact ⟨trivial,_,rfl⟩
 by_cases h2:(n.legs.length:Int)≤leg
 ·simp only [decide_eq_false h1,decide_eq_true h2,decide_eq_false (show ¬ leg≤(n.legs.length:Int)-1 by omega),cond_true,Bool.and_false,cond_false]
  exact ⟨trivial,_,rfl⟩
 simp only [decide_eq_false h1,decide_eq_false h2,decide_eq_true (show 0≤leg by omega),decide_eq_true (show leg≤(n.legs.length:Int)-1 by omega),cond_true,Bool.and_true,cond_false]
 by_cases h3:0≤day∧day≤60
 ·simp only [decide_eq_true h3.1,decide_eq_true h3.2,Bool.and_true,Bool.not_true,cond_false,cond_true]
  have hg:getI n.legs leg=some (n.legs[leg.toNat]'(by omega)):=by
   unfold getI; rw [if_pos (by omega)]; exact List.getElem?_eq_getElem _
  rw [hg]
  simp only [Option.bind_some]
  have hm:0≤Int.tmod day 7:=Int.tmod_nonneg 7 h3.1
  rw [Zni (decide_eq_true hm)]
  simp only [Option.bind_some]
  rw [Zpj h.off,Zli h.off]
  generalize Int.fdiv _ _=q
  have hb:=Zq2 q
  unfold ZoG at hb
  rcases hb with hb | hb
  ·rw [hb]; exact ⟨rfl,_,rfl⟩
  ·rw [hb]; exact ⟨rfl,_,rfl⟩
 ·have:(decide (0≤day) && decide (day≤60))=false:=by rw [← Bool.decide_and]; exact decide_eq_false h3
  rw [this]
  exact ⟨rfl,_,rfl⟩
theorem ZrK {n:Za} (h:ZV n) (leg day:Int):ZeW n leg day=ZcD n leg day∧∃ b,ZcD n leg day=some b:=by
 obtain ⟨e,b,s⟩:=Zba h
 obtain ⟨e2,b2,s2⟩:=Zfu h leg day
 unfold ZeW ZcD
 rw [e,e2,s,s2]
 refine ⟨rfl,?_⟩
 cases b <;> exact ⟨_,rfl⟩
theorem Zgj {n:Za} (h:ZV n) (t:Ze):Zai n t=Zaj n t∧∃ b,Zaj n t=some b:=by
 obtain ⟨e,b,s⟩:=ZrK h t.leg t.day
 unfold Zai Zaj
 rw [e,s]
 exact ⟨rfl,_,rfl⟩
theorem Zh3:@Zcy=@Zaq:=by
 funext l t
 unfold Zcy Zaq
 have:Zey l t=ZaV l t:=by
  funext s
  unfold Zey ZaV
  cases hg:getI l s.2 with
  | none=>rfl
  | some y=>simp only [Option.bind_some]
 rw [this]
end Go.Proofs.YtmcdjilbkmhfoaaGreat
namespace Go.Proofs.YtmcdjilbkmhfoaaGreat
set_option maxRecDepth 10000
open Go.RowKit
set_option linter.unusedVariables false
set_option maxHeartbeats 16000000
def ZZ (a:Int) (b:Int):Option Int:=
 cond (decide (a<b))
 (some (-1))
 (cond (decide (b<a))
 (some 1)
 (some 0))
instance (a:Int) (b:Int):CT Tryz.prog (ZZ a b):=⟨244,[vi a,vi b],[],fun r=>vi r,fun r=>[],fun H=>by replace H:=H0 H; unfold ZZ at H; exact Zh Tryz.func244 rfl Tryz.ntmps244 Tryz.results244 fun Q hQ hQn=>wk3⟩
def ZH (list:List Int) (s0:Int):Option (Int ⊕ (Unit ⊕ Int)):=
 cond (decide (s0<(list.length:Int)))
 ((getI list s0).bind fun y1=>
 cond (!decide (y1=0))
 (some (.inr (.inr y1)))
 (some (.inl (w64 (s0+1)))))
 (some (.inr (.inl ())))
instance (list:List Int):ZU (ZH list):=⟨fun s0=>(U 5 (.sl (list.map cInt)::vi (list.length:Int)::vi s0::(U 7 []))),fun s0=>[]⟩
def Zdb (list:List Int):Option Int:=
 (Zl (ZH list) NN 0).bind (ZX (fun o0=>
 some 0) (fun r=>some r))
instance (list:List Int):CT Tryz.prog (Zdb list):=⟨243,[.sl (list.map cInt)],[],fun r=>vi r,fun r=>[],fun H=>by replace H:=H0 H; unfold Zdb at H; exact Zh Tryz.func243 rfl Tryz.ntmps243 Tryz.results243 fun Q hQ hQn=>wk3⟩
def ZaR (a:Zc) (b:Zc):Option Int:=
 (ZZ a.trip.day b.trip.day).bind fun y1=>
 (ZZ a.trip.leg b.trip.leg).bind fun y2=>
 (ZZ a.thing b.thing).bind fun y3=>
 (Zdb ([y1,y2,y3])).bind fun y4=>
 some y4
instance (a:Zc) (b:Zc):CT Tryz.prog (ZaR a b):=⟨202,[.ag (Zg a),.ag (Zg b)],[],fun r=>vi r,fun r=>[],fun H=>by replace H:=H0 H; unfold ZaR at H; exact Zh Tryz.func202 rfl Tryz.ntmps202 Tryz.results202 fun Q hQ hQn=>wk3⟩
def Za0 (n:Za) (l:List Zc) (s0:Int):Option (Int ⊕ (Unit ⊕ Bool)):=
 cond (decide (s0<(l.length:Int)))
 ((getI l s0).bind fun y2=>
 cond (decide (0<s0))
 ((getI l (w64 (s0-1))).bind fun y3=>
 (ZaR y3 y2).bind fun y4=>
 cond (decide (0≤y4))
 (some (.inr (.inr false)))
 ((Zai n y2.trip).bind fun y5=>
 cond (!y5)
 (some (.inr (.inr false)))
 ((Zt y2.thing 1 9999).bind fun y6=>
 cond (!y6)
 (some (.inr (.inr false)))
 ((Zt y2.weight 1 1000000).bind fun y7=>
 cond (!y7)
 (some (.inr (.inr false)))
 ((Zcy l y2.trip).bind fun y8=>
 (getI n.legs y2.trip.leg).bind fun y9=>
 cond (decide (y9.room<y8))
 (some (.inr (.inr false)))
 (some (.inl (w64 (s0+1)))))))))
 ((Zai n y2.trip).bind fun y10=>
 cond (!y10)
 (some (.inr (.inr false)))
 ((Zt y2.thing 1 9999).bind fun y11=>
 cond (!y11)
 (some (.inr (.inr false)))
 ((Zt y2.weight 1 1000000).bind fun y12=>
 cond (!y12)
 (some (.inr (.inr false)))
 ((Zcy l y2.trip).bind fun y13=>
 (getI n.legs y2.trip.leg).bind fun y14=>
 cond (decide (y14.room<y13))
 (some (.inr (.inr false)))
 (some (.inl (w64 (s0+1)))))))))
 (some (.inr (.inl ())))
instance (n:Za) (l:List Zc):ZU (Za0 n l):=⟨fun s0=>(.un::.sl (l.map Zg)::.be 0 0 0::(U 12 (.sl (l.map Zg)::vi (l.length:Int)::vi s0::(U 51 [])))),fun s0=>[some ⟨35,3,[[.sl (n.legs.map cLeg),.sl (n.off.map cInt),vi n.change]]⟩]⟩
def ZbK (n:Za) (l:List Zc):Option Bool:=
 (ZY n).bind fun y1=>
 cond (!y1)
 (some false)
 (cond (decide (120<(l.length:Int)))
 (some false)
 ((Zl (Za0 n l) NN 0).bind (ZX (fun o0=>
 some true) (fun r=>some r))))
instance (n:Za) (l:List Zc):CT Tryz.prog (ZbK n l):=⟨139,[.ag (Zm n),.sl (l.map Zg)],[],fun r=>vb r,fun r=>[],fun H=>by replace H:=H0 H; unfold ZbK at H; exact Zh Tryz.func139 rfl Tryz.ntmps139 Tryz.results139 fun Q hQ hQn=>wk3⟩
def Zc6 (a:Zc) (b:Zc):Option Bool:=
 cond (!decide (a.trip.day=b.trip.day))
 (some (decide (a.trip.day<b.trip.day)))
 (cond (!decide (a.trip.leg=b.trip.leg))
 (some (decide (a.trip.leg<b.trip.leg)))
 (some (decide (a.thing<b.thing))))
instance (a:Zc) (b:Zc):CT Tryz.prog (Zc6 a b):=⟨182,[.ag (Zg a),.ag (Zg b)],[],fun r=>vb r,fun r=>[],fun H=>by replace H:=H0 H; unfold Zc6 at H; exact Zh Tryz.func182 rfl Tryz.ntmps182 Tryz.results182 fun Q hQ hQn=>wk3⟩
def ZbF (n:Za) (l:List Zc) (s0:Int):Option (Int ⊕ (Unit ⊕ Bool)):=
 cond (decide (s0<(l.length:Int)))
 ((getI l s0).bind fun y2=>
 (ZP n y2.trip.leg y2.trip.day).bind fun y3=>
 cond (!y3)
 (some (.inr (.inr false)))
 ((ZG y2.thing 1 9999).bind fun y4=>
 cond (!y4)
 (some (.inr (.inr false)))
 ((ZG y2.weight 1 1000000).bind fun y5=>
 cond (!y5)
 (some (.inr (.inr false)))
 (cond (decide (0<s0))
 ((getI l (w64 (s0-1))).bind fun y6=>
 (Zc6 y6 y2).bind fun y7=>
 cond (!y7)
 (some (.inr (.inr false)))
 (some (.inl (w64 (s0+1)))))
 (some (.inl (w64 (s0+1))))))))
 (some (.inr (.inl ())))
instance (n:Za) (l:List Zc):ZU (ZbF n l):=⟨fun s0=>(.un::.sl (l.map Zg)::.be 0 0 0::.un::.un::vi s0::(U 80 [])),fun s0=>[some ⟨35,3,[[.sl (n.legs.map cLeg),.sl (n.off.map cInt),vi n.change]]⟩]⟩
def ZbG (n:Za) (l:List Zc) (s1:Int):Option (Int ⊕ (Unit ⊕ Bool)):=
 cond (decide (s1<(l.length:Int)))
 ((getI l s1).bind fun y8=>
 (Zaq l y8.trip).bind fun y9=>
 (getI l s1).bind fun y10=>
 (getI n.legs y10.trip.leg).bind fun y11=>
 cond (decide (y11.room<y9))
 (some (.inr (.inr false)))
 (some (.inl (w64 (s1+1)))))
 (some (.inr (.inl ())))
instance (n:Za) (l:List Zc):ZU (ZbG n l):=⟨fun s1=>(.un::.sl (l.map Zg)::.be 0 0 0::(U 4 (vi s1::(U 78 [])))),fun s1=>[some ⟨35,3,[[.sl (n.legs.map cLeg),.sl (n.off.map cInt),vi n.change]]⟩]⟩
def Zax (n:Za) (l:List Zc):Option Bool:=
 (Zi n).bind fun y1=>
 cond (!y1)
 (some false)
 (cond (decide (120<(l.length:Int)))
 (some false)
 ((Zl (ZbF n l) NN 0).bind (ZX (fun o0=>
 (Zl (ZbG n l) NN 0).bind (ZX (fun o1=>
 some true) (fun r=>some r))) (fun r=>some r))))
instance (n:Za) (l:List Zc):CT Tryz.prog (Zax n l):=⟨107,[.ag (Zm n),.sl (l.map Zg)],[],fun r=>vb r,fun r=>[],fun H=>by replace H:=H0 H; unfold Zax at H; exact Zh Tryz.func107 rfl Tryz.ntmps107 Tryz.results107 fun Q hQ hQn=>wk3⟩
end Go.Proofs.YtmcdjilbkmhfoaaGreat
namespace Go.Proofs.YtmcdjilbkmhfoaaGreat
set_option maxRecDepth 10000
open Go.RowKit
set_option linter.unusedVariables false
set_option linter.unusedSimpArgs false
def cmpI (a b:Int):Int:=if a<b then -1 else if b<a then 1 else 0
theorem Ztz (a b:Int):ZZ a b=some (cmpI a b):=by
 unfold ZZ cmpI
 by_cases h:a<b
 ·simp [h]
 ·by_cases h2:b<a <;> simp [h,h2]
theorem ZvQ (x y z:Int):Zdb [x,y,z]=some (if x≠0 then x else if y≠0 then y else z):=by
 obtain ⟨k,hk⟩:∃ k,NN=k+1+1+1+1:=⟨1152921504606846972,by unfold NN; omega⟩
 unfold Zdb
 rw [hk]
 have w0:w64 1=1:=Zp (by omega)
 have w1:w64 2=2:=Zp (by omega)
 have w2:w64 3=3:=Zp (by omega)
 by_cases hx:x=0
 ·by_cases hy:y=0
  ·by_cases hz:z=0
   ·simp [Zl,ZX,ZH,getI,hx,hy,hz,w0,w1,w2]
   ·simp [Zl,ZX,ZH,getI,hx,hy,hz,w0,w1,w2]
  ·simp [Zl,ZX,ZH,getI,hx,hy,w0]
 ·simp [Zl,ZX,ZH,getI,hx]
def befB (a b:Zc):Bool:=if a.trip.day≠b.trip.day then decide (a.trip.day<b.trip.day) else if a.trip.leg≠b.trip.leg then decide (a.trip.leg<b.trip.leg) else decide (a.thing<b.thing)
theorem Zk9 (a b:Zc):Zc6 a b=some (befB a b):=by
 unfold Zc6 befB
 by_cases h1:a.trip.day=b.trip.day
 ·by_cases h2:a.trip.leg=b.trip.leg <;> simp [h1,h2]
 ·simp [h1]
theorem Zl0 (a b:Zc):∃ v,ZaR a b=some v∧decide (0≤v)=!befB a b:=by
 unfold ZaR
 simp only [Ztz,Option.bind_some,ZvQ]
 refine ⟨_,rfl,?_⟩
 unfold befB cmpI
 rcases Int.lt_trichotomy a.trip.day b.trip.day with h1 | h1 | h1
 ·simp [h1,show a.trip.day≠b.trip.day by omega]
 ·rcases Int.lt_trichotomy a.trip.leg b.trip.leg with h2 | h2 | h2
  ·simp [h1,h2,show a.trip.leg≠b.trip.leg by omega]
  ·rcases Int.lt_trichotomy a.thing b.thing with h3 | h3 | h3
   ·simp [h1,h2,h3]
   ·simp [h1,h2,h3]
   ·simp [h1,h2,h3,show ¬ a.thing<b.thing by omega]
  ·simp [h1,h2,show a.trip.leg≠b.trip.leg by omega,show ¬ a.trip.leg<b.trip.leg by omega]
 ·simp [h1,show a.trip.day≠b.trip.day by omega,show ¬ a.trip.day<b.trip.day by omega]
theorem ZgC {l:List Zc} (h:l.length≤1048576) (t:Ze):∃ v,Zaq l t=some v:=by
 have hh:∃ o,Zl (ZaV l t) NN (0,0)=some o:=by
  refine Zjo (fun k s=>∃ i:Nat,i+k=l.length∧s.2=(i:Int)) ?_ NN l.length (0,0) ⟨0,by omega,rfl⟩ (by unfold NN; omega)
  rintro k ⟨a,s⟩ ⟨i,hi,hs⟩
  simp only at hs
  subst hs
  rcases Nat.lt_or_ge i l.length with hlt | hge
  ·have hw:=Z9 hlt (by omega)
   have hg:getI l (i:Int)=some l[i]:=by rw [Zq]; exact List.getElem?_eq_getElem hlt
   cases hc:decide (l[i].trip=t) with
   | true=>
    refine ⟨_,by simp only [ZaV,decide_eq_true (show (i:Int)<l.length by omega),cond_true,hg,Option.bind_some,hc,hw]; rfl,?_⟩
    rintro s' e; cases e; exact ⟨k-1,by omega,i+1,by omega,rfl⟩
   | false=>
    refine ⟨_,by simp only [ZaV,decide_eq_true (show (i:Int)<l.length by omega),cond_true,cond_false,hg,Option.bind_some,hc,hw]; rfl,?_⟩
    rintro s' e; cases e; exact ⟨k-1,by omega,i+1,by omega,rfl⟩
  ·have:i=l.length:=by omega
   subst this
   refine ⟨_,by simp only [ZaV,decide_eq_false (show ¬ ((l.length:Int)<l.length) by omega),cond_false]; rfl,?_⟩
   rintro s' e; cases e
 obtain ⟨o,ho⟩:=hh
 exact ⟨o,by unfold Zaq; rw [ho]; rfl⟩
theorem Zid {n:Za} (h:ZV n) {leg day:Int} (hr:ZP n leg day=some true):∃ y,getI n.legs leg=some y:=by
 have hl:=h.legs
 have hw:w64 ((n.legs.length:Int)-1)=n.legs.length-1:=Zp (by omega)
 unfold ZP at hr
 rw [hw,Zbb] at hr
 simp only [Option.bind_some] at hr
 by_cases h1:0≤leg∧leg≤(n.legs.length:Int)-1
 ·exact ⟨n.legs[leg.toNat]'(by omega),by unfold getI; rw [if_pos h1.1]; exact List.getElem?_eq_getElem _⟩
 ·rw [← Bool.decide_and,decide_eq_false h1] at hr
  cases hr
def bk1 (n:Za) (l:List Zc) (i:Nat):Bool:=match l[i]? with
 | none=>true
 | some y=>(ZP n y.trip.leg y.trip.day).getD false && (decide (1≤y.thing) && decide (y.thing≤9999)) && (decide (1≤y.weight) && decide (y.weight≤1000000)) && (decide (i=0) || match l[i-1]? with
  | none=>true
  | some x=>befB x y)
def bk2 (n:Za) (l:List Zc) (i:Nat):Bool:=match l[i]? with
 | none=>true
 | some y=>match getI n.legs y.trip.leg,Zaq l y.trip with
  | some g,some v=>!decide (g.room<v)
  | _,_=>false
def Z6 (n:Za) (l:List Zc):Bool:=(Zi n).getD false && decide ((l.length:Int)≤120) && (List.range l.length).all fun i=>bk1 n l i && bk2 n l i
theorem Zby {n:Za} (h:ZV n) {l:List Zc} (hl:l.length≤1048576):Zax n l=some (Z6 n l):=by
 obtain ⟨_,b,hb⟩:=Zba h
 unfold Zax Z6
 rw [hb]
 simp only [Option.bind_some,Option.getD_some]
 cases b with
 | false=>rfl
 | true=>
  by_cases h120:120<(l.length:Int)
  ·simp [h120,show ¬ ((l.length:Int)≤120) by omega]
  simp only [Bool.not_true,cond_false,decide_eq_false h120,decide_eq_true (show (l.length:Int)≤120 by omega),Bool.true_and]
  have e0:Zl (ZbF n l) NN 0=some (if (List.range l.length).all (bk1 n l)=true then .inl () else .inr false):=by
   refine Zhj (fun i hi _=>?_) (fun _=>by simp [ZbF]) (by unfold NN; omega)
   have hw:=Z9 hi (by omega)
   have hg:getI l (i:Int)=some l[i]:=by rw [Zq]; exact List.getElem?_eq_getElem hi
   obtain ⟨_,rb,hrb⟩:=Zfu h l[i].trip.leg l[i].trip.day
   simp only [ZbF,decide_eq_true (show (i:Int)<l.length by omega),cond_true,hg,Option.bind_some,hrb,Zbb,bk1,List.getElem?_eq_getElem hi,Option.getD_some]
   cases rb with
   | false=>simp
   | true=>
    cases decide (1≤l[i].thing) && decide (l[i].thing≤9999) with
    | false=>simp
    | true=>
     cases decide (1≤l[i].weight) && decide (l[i].weight≤1000000) with
     | false=>simp
     | true=>
      by_cases hi0:i=0
      ·subst hi0
       have hw':w64 1=1:=Zp (by omega)
       simp [hw']
      ·have hw2:w64 ((i:Int)-1)=((i-1:Nat):Int):=by rw [Zp (by omega)]; omega
       have hg2:getI l ((i-1:Nat):Int)=some l[i-1]:=by rw [Zq]; exact List.getElem?_eq_getElem (by omega)
       simp only [decide_eq_true (show 0<(i:Int) by omega),hw2,hg2,Option.bind_some,Zk9,hw,List.getElem?_eq_getElem (show i-1<l.length by omega),decide_eq_false hi0,Bool.not_true,cond_false,cond_true,Bool.true_and,Bool.false_or]
       cases befB l[i-1] l[i] <;> rfl
  rw [e0]
  by_cases hall:(List.range l.length).all (bk1 n l)=true
  ·rw [if_pos hall]
   have e1:Zl (ZbG n l) NN 0=some (if (List.range l.length).all (bk2 n l)=true then .inl () else .inr false):=by
    refine Zhj (fun i hi _=>?_) (fun _=>by simp [ZbG]) (by unfold NN; omega)
    have hw:=Z9 hi (by omega)
    have hg:getI l (i:Int)=some l[i]:=by rw [Zq]; exact List.getElem?_eq_getElem hi
    obtain ⟨v,hv⟩:=ZgC hl l[i].trip
    have hb1:=List.all_eq_true.1 hall i (List.mem_range.2 hi)
    obtain ⟨_,rb,hrb⟩:=Zfu h l[i].trip.leg l[i].trip.day
    have hrt:rb=true:=by
     simp only [bk1,List.getElem?_eq_getElem hi,hrb,Option.getD_some,Bool.and_eq_true] at hb1
     exact hb1.1.1.1
    subst hrt
    obtain ⟨g,hgl⟩:=Zid h hrb
    simp only [ZbG,decide_eq_true (show (i:Int)<l.length by omega),cond_true,hg,Option.bind_some,hv,hgl,bk2,List.getElem?_eq_getElem hi,hw]
    cases decide (g.room<v) <;> rfl
   simp only [Option.bind_some]
   rw [e1]
   have:(List.range l.length).all (fun i=>bk1 n l i && bk2 n l i)=(List.range l.length).all (bk2 n l):=by
    rw [Bool.eq_iff_iff,List.all_eq_true,List.all_eq_true]
    exact ⟨fun H i hi=>by have:=H i hi; simp only [Bool.and_eq_true] at this; exact this.2,fun H i hi=>by rw [List.all_eq_true.1 hall i hi,H i hi]; rfl⟩
   rw [this]
   cases (List.range l.length).all (bk2 n l) <;> rfl
  ·rw [if_neg hall]
   have:(List.range l.length).all (fun i=>bk1 n l i && bk2 n l i)=false:=by
    rw [Bool.eq_false_iff]
    intro H
    exact hall (List.all_eq_true.2 fun i hi=>by have:=List.all_eq_true.1 H i hi; simp only [Bool.and_eq_true] at this; exact this.1)
   rw [this]; rfl
theorem ZhZ {n:Za} (h:ZV n) (hn:Zi n=some true) (t:Ze):Zai n t=ZP n t.leg t.day:=by
 rw [(Zgj h t).1]
 unfold Zaj ZcD
 rw [hn]
 obtain ⟨_,b,hb⟩:=Zfu h t.leg t.day
 simp only [Option.bind_some,cond_true,hb]
theorem ZhG {n:Za} (h:ZV n) {l:List Zc} (hl:l.length≤1048576):ZbK n l=some (Z6 n l):=by
 obtain ⟨en,b,hb⟩:=Zba h
 unfold ZbK Z6
 rw [en,hb]
 simp only [Option.bind_some,Option.getD_some]
 cases b with
 | false=>rfl
 | true=>
  by_cases h120:120<(l.length:Int)
  ·simp [h120,show ¬ ((l.length:Int)≤120) by omega]
  simp only [Bool.not_true,cond_false,decide_eq_false h120,decide_eq_true (show (l.length:Int)≤120 by omega),Bool.true_and]
  have e0:Zl (Za0 n l) NN 0=some (if (List.range l.length).all (fun i=>bk1 n l i && bk2 n l i)=true then .inl () else .inr false):=by
   refine Zhj (fun i hi _=>?_) (fun _=>by simp [Za0]) (by unfold NN; omega)
   have hw:=Z9 hi (by omega)
   have hg:getI l (i:Int)=some l[i]:=by rw [Zq]; exact List.getElem?_eq_getElem hi
   obtain ⟨_,rb,hrb⟩:=Zfu h l[i].trip.leg l[i].trip.day
   have ht:=ZhZ h hb l[i].trip
   rw [hrb] at ht
   obtain ⟨v,hv⟩:=ZgC hl l[i].trip
   have hrest:∀ {X:Option (Int ⊕ (Unit ⊕ Bool))} {pre:Bool},pre=(decide (i=0) || match l[i-1]? with
    | none=>true
    | some x=>befB x l[i])→
    X=(cond (!pre) (some (.inr (.inr false))) ((some rb).bind fun y10=>cond (!y10) (some (.inr (.inr false))) ((ZG l[i].thing 1 9999).bind fun y11=>cond (!y11) (some (.inr (.inr false))) ((ZG l[i].weight 1 1000000).bind fun y12=>cond (!y12) (some (.inr (.inr false))) ((some v).bind fun y13=>(getI n.legs l[i].trip.leg).bind fun y14=>cond (decide (y14.room<y13)) (some (.inr (.inr false))) (some (.inl ((i+1:Nat):Int))))))))→
    X=some (if (bk1 n l i && bk2 n l i)=true then .inl ((i+1:Nat):Int) else .inr (.inr false)):=by
    rintro X pre hpre rfl
    simp only [bk1,bk2,List.getElem?_eq_getElem hi,hrb,hv,Option.getD_some,Zbb,Option.bind_some,← hpre]
    cases pre with
    | false=>simp
    | true=>
     cases rb with
     | false=>simp
     | true=>
      obtain ⟨g,hgl⟩:=Zid h hrb
      simp only [hgl,Option.bind_some]
      cases decide (1≤l[i].thing) && decide (l[i].thing≤9999) with
      | false=>simp
      | true=>
       cases decide (1≤l[i].weight) && decide (l[i].weight≤1000000) with
       | false=>simp
       | true=>cases decide (g.room<v) <;> simp
   by_cases hi0:i=0
   ·refine hrest (pre:=true) (by simp [hi0]) ?_
    simp only [Za0,decide_eq_true (show (i:Int)<l.length by omega),decide_eq_false (show ¬ 0<(i:Int) by omega),cond_true,cond_false,hg,Option.bind_some,ht,Zdy,Zh3,hv,hw,Bool.not_true]
   ·have hw2:w64 ((i:Int)-1)=((i-1:Nat):Int):=by rw [Zp (by omega)]; omega
    have hg2:getI l ((i-1:Nat):Int)=some l[i-1]:=by rw [Zq]; exact List.getElem?_eq_getElem (by omega)
    obtain ⟨cv,hcv,hc0⟩:=Zl0 l[i-1] l[i]
    refine hrest (pre:=befB l[i-1] l[i]) (by simp [hi0,List.getElem?_eq_getElem (show i-1<l.length by omega)]) ?_
    simp only [Za0,decide_eq_true (show (i:Int)<l.length by omega),decide_eq_true (show 0<(i:Int) by omega),cond_true,cond_false,hg,hw2,hg2,hcv,hc0,Option.bind_some,ht,Zdy,Zh3,hv,hw]
  rw [e0]
  cases (List.range l.length).all (fun i=>bk1 n l i && bk2 n l i) <;> rfl
end Go.Proofs.YtmcdjilbkmhfoaaGreat
namespace Go.Proofs.YtmcdjilbkmhfoaaGreat
set_option maxRecDepth 10000
open Go.RowKit
set_option linter.unusedVariables false
set_option maxHeartbeats 16000000
def Zes (w:Zd) (o:Zf):Option Bool:=
 cond (decide (0<o.gone))
 ((getI o.way (w64 (o.gone-1))).bind fun y1=>
 (ZL w.network y1).bind fun y2=>
 cond (decide (w.now<y2))
 (some false)
 ((getI w.network.legs y1.leg).bind fun y3=>
 cond (decide (o.state=1))
 (cond (decide (o.place=y3.to_))
 (cond (!decide (y3.to_=o.to_))
 (cond (decide (o.ended=0))
 (cond (decide (o.gone=(o.way.length:Int)))
 (some true)
 ((getI o.way o.gone).bind fun y4=>
 (ZI w.network y4).bind fun y5=>
 some (decide (w.now<y5))))
 (some false))
 (some false))
 (some false))
 (cond (decide (o.state=2))
 (cond (decide (o.place=⟨#[]⟩))
 (cond (decide (o.ended=0))
 (cond (decide (o.gone<(o.way.length:Int)))
 ((getI o.way o.gone).bind fun y6=>
 (ZI w.network y6).bind fun y7=>
 cond (decide (y7≤w.now))
 ((getI o.way o.gone).bind fun y8=>
 (ZL w.network y8).bind fun y9=>
 some (decide (w.now<y9)))
 (some false))
 (some false))
 (some false))
 (some false))
 (cond (decide (o.state=3))
 (cond (decide (o.gone=(o.way.length:Int)))
 (cond (decide (0<o.gone))
 (cond (decide (o.place=o.to_))
 (cond (decide (y3.to_=o.to_))
 ((getI o.way (w64 (o.gone-1))).bind fun y10=>
 (ZL w.network y10).bind fun y11=>
 some (decide (o.ended=y11)))
 (some false))
 (some false))
 (some false))
 (some false))
 (some false)))))
 (cond (decide (o.state=1))
 (cond (decide (o.place=o.from_))
 (cond (!decide (o.from_=o.to_))
 (cond (decide (o.ended=0))
 (cond (decide (o.gone=(o.way.length:Int)))
 (some true)
 ((getI o.way o.gone).bind fun y12=>
 (ZI w.network y12).bind fun y13=>
 some (decide (w.now<y13))))
 (some false))
 (some false))
 (some false))
 (cond (decide (o.state=2))
 (cond (decide (o.place=⟨#[]⟩))
 (cond (decide (o.ended=0))
 (cond (decide (o.gone<(o.way.length:Int)))
 ((getI o.way o.gone).bind fun y14=>
 (ZI w.network y14).bind fun y15=>
 cond (decide (y15≤w.now))
 ((getI o.way o.gone).bind fun y16=>
 (ZL w.network y16).bind fun y17=>
 some (decide (w.now<y17)))
 (some false))
 (some false))
 (some false))
 (some false))
 (cond (decide (o.state=3))
 (cond (decide (o.gone=(o.way.length:Int)))
 (cond (decide (0<o.gone))
 (cond (decide (o.place=o.to_))
 (cond (decide (o.from_=o.to_))
 ((getI o.way (w64 (o.gone-1))).bind fun y18=>
 (ZL w.network y18).bind fun y19=>
 some (decide (o.ended=y19)))
 (some false))
 (some false))
 (some false))
 (some false))
 (some false))))
instance (w:Zd) (o:Zf):CT Tryz.prog (Zes w o):=⟨209,[.ag (ZbD w),.ag (Zv o)],[],fun r=>vb r,fun r=>[],fun H=>by replace H:=H0 H; unfold Zes at H; exact Zh Tryz.func209 rfl Tryz.ntmps209 Tryz.results209 fun Q hQ hQn=>wk3⟩
def ZD (n:Za) (x:Zf) (now:Int):Option Bool:=
 cond (decide (0<x.gone))
 ((getI x.way (w64 (x.gone-1))).bind fun y1=>
 (getI n.legs y1.leg).bind fun y2=>
 (getI x.way (w64 (x.gone-1))).bind fun y3=>
 (Zn n y3).bind fun y4=>
 cond (decide (now<y4))
 (some false)
 (cond (decide (x.state=1))
 (cond (decide (x.place=y2.to_))
 (cond (!decide (y2.to_=x.to_))
 (cond (decide (x.ended=0))
 (cond (decide (x.gone=(x.way.length:Int)))
 (some true)
 ((getI x.way x.gone).bind fun y5=>
 (Zo n y5).bind fun y6=>
 some (decide (now<y6))))
 (some false))
 (some false))
 (some false))
 (cond (decide (x.state=2))
 (cond (decide (x.place=⟨#[]⟩))
 (cond (decide (x.ended=0))
 (cond (decide (x.gone<(x.way.length:Int)))
 ((getI x.way x.gone).bind fun y7=>
 (Zo n y7).bind fun y8=>
 cond (decide (y8≤now))
 ((getI x.way x.gone).bind fun y9=>
 (Zn n y9).bind fun y10=>
 some (decide (now<y10)))
 (some false))
 (some false))
 (some false))
 (some false))
 (cond (decide (x.state=3))
 (cond (decide (x.place=x.to_))
 (cond (decide (y2.to_=x.to_))
 (cond (decide (x.gone=(x.way.length:Int)))
 (cond (decide (0<x.gone))
 ((getI x.way (w64 (x.gone-1))).bind fun y11=>
 (Zn n y11).bind fun y12=>
 some (decide (x.ended=y12)))
 (some false))
 (some false))
 (some false))
 (some false))
 (some false)))))
 (cond (decide (x.state=1))
 (cond (decide (x.place=x.from_))
 (cond (!decide (x.from_=x.to_))
 (cond (decide (x.ended=0))
 (cond (decide (x.gone=(x.way.length:Int)))
 (some true)
 ((getI x.way x.gone).bind fun y13=>
 (Zo n y13).bind fun y14=>
 some (decide (now<y14))))
 (some false))
 (some false))
 (some false))
 (cond (decide (x.state=2))
 (cond (decide (x.place=⟨#[]⟩))
 (cond (decide (x.ended=0))
 (cond (decide (x.gone<(x.way.length:Int)))
 ((getI x.way x.gone).bind fun y15=>
 (Zo n y15).bind fun y16=>
 cond (decide (y16≤now))
 ((getI x.way x.gone).bind fun y17=>
 (Zn n y17).bind fun y18=>
 some (decide (now<y18)))
 (some false))
 (some false))
 (some false))
 (some false))
 (cond (decide (x.state=3))
 (cond (decide (x.place=x.to_))
 (cond (decide (x.from_=x.to_))
 (cond (decide (x.gone=(x.way.length:Int)))
 (cond (decide (0<x.gone))
 ((getI x.way (w64 (x.gone-1))).bind fun y19=>
 (Zn n y19).bind fun y20=>
 some (decide (x.ended=y20)))
 (some false))
 (some false))
 (some false))
 (some false))
 (some false))))
instance (n:Za) (x:Zf) (now:Int):CT Tryz.prog (ZD n x now):=⟨188,[.ag (Zm n),.ag (Zv x),vi now],[],fun r=>vb r,fun r=>[],fun H=>by replace H:=H0 H; unfold ZD at H; exact Zh Tryz.func188 rfl Tryz.ntmps188 Tryz.results188 fun Q hQ hQn=>wk3⟩
def Zea (o:Zf):Option Int:=
 cond (decide (o.state=2))
 (some (if (o.way.length:Int)<(w64 (o.gone+1)) then (o.way.length:Int) else (w64 (o.gone+1))))
 (some o.gone)
instance (o:Zf):CT Tryz.prog (Zea o):=⟨127,[.ag (Zv o)],[],fun r=>vi r,fun r=>[],fun H=>by replace H:=H0 H; unfold Zea at H; exact Zh Tryz.func127 rfl Tryz.ntmps127 Tryz.results127 fun Q hQ hQn=>wk3⟩
def ZgD (w:Zd) (o:Zf):Option ByteArray:=
 cond (decide (o.state=2))
 ((getI o.way o.gone).bind fun y1=>
 (getI w.network.legs y1.leg).bind fun y2=>
 some y2.to_)
 (some o.place)
instance (w:Zd) (o:Zf):CT Tryz.prog (ZgD w o):=⟨189,[.ag (ZbD w),.ag (Zv o)],[],fun r=>vs r,fun r=>[],fun H=>by replace H:=H0 H; unfold ZgD at H; exact Zh Tryz.func189 rfl Tryz.ntmps189 Tryz.results189 fun Q hQ hQn=>wk3⟩
def Zd9 (w:Zd) (o:Zf):Option Bool:=
 cond (!decide (o.state=3))
 ((Zea o).bind fun y1=>
 cond (decide (y1=(o.way.length:Int)))
 ((ZgD w o).bind fun y2=>
 some (!decide (y2=o.to_)))
 (some false))
 (some false)
instance (w:Zd) (o:Zf):CT Tryz.prog (Zd9 w o):=⟨120,[.ag (ZbD w),.ag (Zv o)],[],fun r=>vb r,fun r=>[],fun H=>by replace H:=H0 H; unfold Zd9 at H; exact Zh Tryz.func120 rfl Tryz.ntmps120 Tryz.results120 fun Q hQ hQn=>wk3⟩
def Zbh (x:Zf):Option Int:=
 cond (decide (x.state=2))
 (some (w64 (x.gone+1)))
 (some x.gone)
instance (x:Zf):CT Tryz.prog (Zbh x):=⟨122,[.ag (Zv x)],[],fun r=>vi r,fun r=>[],fun H=>by replace H:=H0 H; unfold Zbh at H; exact Zh Tryz.func122 rfl Tryz.ntmps122 Tryz.results122 fun Q hQ hQn=>wk3⟩
def Zau (n:Za) (x:Zf):Option ByteArray:=
 cond (decide (x.state=2))
 ((getI x.way x.gone).bind fun y1=>
 (getI n.legs y1.leg).bind fun y2=>
 some y2.to_)
 (some x.place)
instance (n:Za) (x:Zf):CT Tryz.prog (Zau n x):=⟨192,[.ag (Zm n),.ag (Zv x)],[],fun r=>vs r,fun r=>[],fun H=>by replace H:=H0 H; unfold Zau at H; exact Zh Tryz.func192 rfl Tryz.ntmps192 Tryz.results192 fun Q hQ hQn=>wk3⟩
def ZcF (w:Zd) (i:Int):Option Bool:=
 (getI w.orders i).bind fun y1=>
 cond (!decide (y1.state=3))
 ((Zbh y1).bind fun y2=>
 cond (decide (y2=(y1.way.length:Int)))
 ((Zau w.network y1).bind fun y3=>
 some (!decide (y3=y1.to_)))
 (some false))
 (some false)
instance (w:Zd) (i:Int):CT Tryz.prog (ZcF w i):=⟨194,[.ag (ZbD w),vi i],[],fun r=>vb r,fun r=>[],fun H=>by replace H:=H0 H; unfold ZcF at H; exact Zh Tryz.func194 rfl Tryz.ntmps194 Tryz.results194 fun Q hQ hQn=>wk3⟩
def Zgn (places:List ByteArray) (s:ByteArray) (s0:Int):Option (Int ⊕ (Unit ⊕ Int)):=
 cond (decide (s0<(places.length:Int)))
 ((getI places s0).bind fun y1=>
 cond (decide (y1=s))
 (some (.inr (.inr s0)))
 (some (.inl (w64 (s0+1)))))
 (some (.inr (.inl ())))
instance (places:List ByteArray) (s:ByteArray):ZU (Zgn places s):=⟨fun s0=>(.un::vs s::(U 5 (.sl (places.map cStr)::vi (places.length:Int)::vi s0::(U 9 [])))),fun s0=>[]⟩
def Zu (places:List ByteArray) (s:ByteArray):Option Int:=
 (Zl (Zgn places s) NN 0).bind (ZX (fun o0=>
 some (-1)) (fun r=>some r))
instance (places:List ByteArray) (s:ByteArray):CT Tryz.prog (Zu places s):=⟨205,[.sl (places.map cStr),vs s],[],fun r=>vi r,fun r=>[],fun H=>by replace H:=H0 H; unfold Zu at H; exact Zh Tryz.func205 rfl Tryz.ntmps205 Tryz.results205 fun Q hQ hQn=>wk3⟩
def Zed (l:List ByteArray) (p:ByteArray) (s0:Int):Option (Int ⊕ (Unit ⊕ Int)):=
 cond (decide (s0<(l.length:Int)))
 ((getI l s0).bind fun y1=>
 cond (decide (y1=p))
 (some (.inr (.inr s0)))
 (some (.inl (w64 (s0+1)))))
 (some (.inr (.inl ())))
instance (l:List ByteArray) (p:ByteArray):ZU (Zed l p):=⟨fun s0=>(.sl (l.map cStr)::vs p::(U 3 (vi s0::(U 13 [])))),fun s0=>[]⟩
def ZE (l:List ByteArray) (p:ByteArray):Option Int:=
 (Zl (Zed l p) NN 0).bind (ZX (fun o0=>
 some (-1)) (fun r=>some r))
instance (l:List ByteArray) (p:ByteArray):CT Tryz.prog (ZE l p):=⟨185,[.sl (l.map cStr),vs p],[],fun r=>vi r,fun r=>[],fun H=>by replace H:=H0 H; unfold ZE at H; exact Zh Tryz.func185 rfl Tryz.ntmps185 Tryz.results185 fun Q hQ hQn=>wk3⟩
end Go.Proofs.YtmcdjilbkmhfoaaGreat
namespace Go.Proofs.YtmcdjilbkmhfoaaGreat
set_option maxRecDepth 10000
open Go.RowKit
set_option linter.unusedVariables false
set_option linter.unusedSimpArgs false
theorem Zc9:@Zu=@ZE:=rfl
theorem ZqO (w:Zd) (o:Zf):ZgD w o=Zau w.network o:=rfl
theorem Zqz {n:Za} {t:Ze} (h:getI n.legs t.leg=none):Zn n t=none:=by
 unfold Zn Zo; rw [h]; rfl
theorem Zcv {n:Za} {t:Ze} {y:YLeg} (h:getI n.legs t.leg=some y):∃ v,Zn n t=some v:=by
 unfold Zn Zo; rw [h]; exact ⟨_,rfl⟩
theorem Ztq (w:Zd) (o:Zf):Zes w o=ZD w.network o w.now:=by
 unfold Zes ZD
 rw [Zgx,Ze2]
 cases decide (0<o.gone) with
 | false=>
  simp only [cond_false]
  cases decide (o.state=1) <;> cases decide (o.state=2) <;> cases decide (o.state=3) <;> try rfl
  all_goals cases decide (o.gone=(o.way.length:Int)) <;> cases decide (o.place=o.to_) <;> cases decide (o.from_=o.to_) <;> rfl
 | true=>
  simp only [cond_true]
  cases hg:getI o.way (w64 (o.gone-1)) with
  | none=>rfl
  | some y1=>
   simp only [Option.bind_some,hg]
   cases hl:getI w.network.legs y1.leg with
   | none=>rw [Zqz hl]; rfl
   | some y2=>
    obtain ⟨v,hv⟩:=Zcv hl
    simp only [hv,Option.bind_some]
    cases decide (w.now<v) <;> try rfl
    simp only [cond_false]
    cases decide (o.state=1) <;> cases decide (o.state=2) <;> cases decide (o.state=3) <;> try rfl
    all_goals cases decide (o.gone=(o.way.length:Int)) <;> cases decide (o.place=o.to_) <;> cases decide (y2.to_=o.to_) <;> rfl
end Go.Proofs.YtmcdjilbkmhfoaaGreat
namespace Go.Proofs.YtmcdjilbkmhfoaaGreat
set_option maxRecDepth 10000
open Go.RowKit
structure ElT (P:Program) (t e:TypeId) (k bytes:Nat):Prop where
 ht:P.underlying t=some (.slice e)
 info:∃ i z,P.info? e=some i∧i.zero=some z∧i.size=k∧i.bytes=bytes∧z.cells.size=k
theorem ElT.mk' {P:Program} {t e:TypeId} {k bytes:Nat} {z:Value} (ht:P.underlying t=some (.slice e)) (h:(P.info? e).map (fun i=>(i.zero,i.size,i.bytes))=some (some z,k,bytes)) (hz:z.cells.size=k):ElT P t e k bytes:=by
 obtain ⟨i,h1,h2,h3,h4⟩:=info_parts h
 exact ⟨ht,i,z,h1,h2,h3,h4,hz⟩
theorem Own.form {α:Type} [Enc α] {w:World} {B E:Nat} {v:Value} {xs:List α} (h:Own w B E v xs):∃ A c,v=.slice A xs.length c∧xs.length≤c∧c≤maxLen:=by
 rcases h.2 with ⟨hv,h0⟩ | ⟨g,cap,cur,hv,_,_,hnc,hcm,_⟩
 ·exact ⟨none,0,by rw [hv,h0],by omega,by unfold maxLen; omega⟩
 ·exact ⟨_,cap,hv,hnc,hcm⟩
theorem Own.nil_ {α:Type} [Enc α] (w:World) (B E:Nat):Own w B E (.slice none 0 0) ([]:List α):=World.ownsRow_nil _ _ _ _
theorem Own.empty {α:Type} [Enc α] (w:World) (B E c:Nat) (cur:Array Value) (hB:B≤w.heap.size) (hm:c≤maxLen) (hs:cur.size=c*Enc.k α):
 Own (w.alloc (.cells cur E)) B E (.slice (some ⟨w.heap.size,0,none⟩) 0 c) ([]:List α):=World.ownsRow_made w cur c hB hm hs
theorem Own.more {α:Type} [Enc α] {w:World} {B B' E:Nat} {v:Value} {xs:List α} (h:Own w B E v xs) (hB:B'≤B):Own w B' E v xs:=by
 refine ⟨h.1,?_⟩
 rcases h.2 with h2 | ⟨g,cap,cur,hv,hb,r⟩
 ·exact .inl h2
 ·exact .inr ⟨g,cap,cur,hv,by omega,r⟩
theorem Own.down {α:Type} [Enc α] {w0 W w:World} {E:Nat} {v:Value} {xs:List α} (h:Own w W.heap.size E v xs) (hu:Up w0 W):Own w w0.heap.size E v xs:=h.more hu.size
theorem Up.le {w0 w:World} (h:Up w0 w):w0.heap.size≤w.heap.size:=h.size
theorem Own.grown {α:Type} [Enc α] {w w':World} {B E:Nat} {v:Value} {xs:List α} {row:Option Nat} (h:Own w B E v xs) (hg:w.grownBy w' row) (hne:v.ownBlock=none∨v.ownBlock≠row):Own w' B E v xs:=
 World.ownsRow.kept h hg hne
theorem Rd.one {α:Type} [Enc α] (w:World) (T:TypeId) (x:α) (B:Nat) (hB:w.heap.size<B):Rd (w.alloc (.cells (Enc.cells x).toArray T)) B (some ⟨w.heap.size,0,none⟩) [x]:=by
 intro _
 refine ⟨w.heap.size,0,rfl,hB,fun j u hu=>?_⟩
 rw [ZsB] at hu
 rw [Nat.zero_add,cell_of_row _ _ j _ T (0,0) (heap_alloc_new w _)]
 simpa using hu
def ZeN (w0 w:World) (B E k:Nat) (g n cap m:Nat) (ys:List Value):Prop:=
 ∃ cs:List Value,w.ownsRow B E k (.slice (some ⟨g,0,none⟩) n cap) n cs∧cs.take m=ys.take m∧w0.grownBy w (some g)
theorem ZeN.start {w:World} {B E k g n cap:Nat} {cs ys:List Value} (h:w.ownsRow B E k (.slice (some ⟨g,0,none⟩) n cap) n cs):ZeN w w B E k g n cap 0 ys:=
 ⟨cs,h,by simp,⟨rfl,rfl,rfl,Nat.le_refl _,fun _ _ _=>rfl⟩⟩
theorem ZeN.cell {w0 w:World} {B E k g n cap m:Nat} {ys:List Value} (h:ZeN w0 w B E k g n cap m ys) {j:Nat} (hj:j<n*k):∃ u,w.cell? ⟨g,j,none⟩=some u:=by
 obtain ⟨cs,ho,_⟩:=h
 have hl:cs.length=n*k:=ho.1
 exact ⟨cs[j]'(by omega),by rw [ho.cellAt j hj]; exact List.getElem?_eq_getElem _⟩
theorem ZeN.frozen {w0 w:World} {B E k g n cap m:Nat} {ys:List Value} (h:ZeN w0 w B E k g n cap m ys) (j:Nat):w.frozen? ⟨g,j,none⟩=false:=by
 obtain ⟨cs,ho,_⟩:=h
 exact ho.frozenAt j
theorem Zlf {a b c:World} {row:Option Nat} (h:a.grownBy b row) (k:b.grownBy c row):a.grownBy c row:=
 ⟨k.os.trans h.os,k.tape.trans h.tape,k.output.trans h.output,Nat.le_trans h.size k.size,fun i hi hne=>(k.block i (Nat.lt_of_lt_of_le hi h.size) hne).trans (h.block i hi hne)⟩
theorem ZeN.set1 {w0 w:World} {B E k g n cap m:Nat} {ys:List Value} {v:Value} (h:ZeN w0 w B E k g n cap m ys) (hm:m<n*k) (hy:ys[m]?=some v):
 ZeN w0 (w.setCell ⟨g,m,none⟩ v) B E k g n cap (m+1) ys:=by
 obtain ⟨cs,ho,ht,hg⟩:=h
 have hl:cs.length=n*k:=ho.1
 obtain ⟨h1,h2⟩:=ho.stored m v
 exact ⟨cs.set m v,h1,Zif (by omega) hy ht,Zlf hg h2⟩
theorem ZeN.drewN {w0 w:World} {B E k g n cap m:Nat} {ys:List Value} (h:ZeN w0 w B E k g n cap m ys) (q:Nat):ZeN w0 (w.drewN q) B E k g n cap m ys:=by
 obtain ⟨cs,ho,ht,hg⟩:=h
 exact ⟨cs,ho,ht,⟨hg.os,hg.tape,hg.output,hg.size,hg.block⟩⟩
theorem ZeN.own {α:Type} [Enc α] {w0 w:World} {B E g n cap:Nat} {ys:List α} (h:ZeN w0 w B E (Enc.k α) g n cap (n*Enc.k α) (flat ys)) (hn:ys.length=n):Own w B E (.slice (some ⟨g,0,none⟩) n cap) ys∧w0.grownBy w (some g):=by
 obtain ⟨cs,ho,ht,hg⟩:=h
 have hl:cs.length=n*Enc.k α:=ho.1
 have e1:(flat ys).take (n*Enc.k α)=flat ys:=List.take_of_length_le (by rw [Zd6,hn]; exact Nat.le_refl _)
 rw [e1,List.take_of_length_le (by omega)] at ht
 subst ht
 refine ⟨?_,hg⟩
 unfold Own
 rw [hn]
 exact ho
theorem Zsl (b o j:Nat):(⟨b,o,none⟩:Addr).add j=⟨b,o+j,none⟩:=by unfold Addr.add; split <;> simp_all
theorem Zic {α:Type} [Enc α] {P:Program} (w:World) {t ty e:Nat} {i:TypeInfo} (ht:P.underlying t=some (.slice e)) (hi:P.info? e=some i) {base:Nat} {v:Value} {ys:List α} (hown:Own w base e v ys) (c:Nat):
 (Builtin.append_ #[t,t] ty #[v,.slice none 0 c]).run P w=.ok v w:=by
 rcases hown.2 with ⟨rfl,h0⟩ | ⟨g,cap,cur,rfl,_,_,hnc,_⟩
 ·simp [Builtin.append_,run_underlying ht,sizeOf,typeInfo,hi,Builtin.lenOf,Builtin.firstCells]
 ·simp [Builtin.append_,run_underlying ht,sizeOf,typeInfo,hi,Builtin.lenOf,Builtin.firstCells,hnc,storeCells]
theorem Zly {α:Type} [Enc α] {P:Program} (w:World) {t ty e bytes:Nat} (T:ElT P t e (Enc.k α) bytes) {base:Nat} {v:Value} {ys:List α} (hown:Own w base e v ys)
 {B:Nat} {A:Option Addr} {c:Nat} {xs:List α} (hr:Rd w B A xs) (hbytes:(ys.length+xs.length)*bytes≤140737488355328) (h63:ys.length+xs.length≤maxLen) (hbase:base≤w.heap.size):
 ∃ v' w',(Builtin.append_ #[t,t] ty #[v,.slice A xs.length c]).run P w=.ok v' w'∧Own w' base e v' (ys++xs)∧w.grownBy w' v.ownBlock∧(v'.ownBlock=v.ownBlock∨v'.ownBlock=some w.heap.size):=by
 obtain ⟨i,z,hi,hz,hs,hb,hzs⟩:=T.info
 cases A with
 | none=>
  have hx:xs=[]:=by
   rcases Classical.em (xs=[]) with h | h
   ·exact h
   ·obtain ⟨_,_,h',_⟩:=hr h
    cases h'
  subst hx
  have hrun:=Zic (P:=P) w (ty:=ty) T.ht hi hown c
  exact ⟨v,w,by simpa using hrun,by simpa using hown,⟨rfl,rfl,rfl,Nat.le_refl _,fun _ _ _=>rfl⟩,.inl rfl⟩
 | some ad=>
  have hnews:∀ j u,(flat xs)[j]?=some u→w.cell? (ad.add j)=some u:=by
   intro j u hu
   have hne:xs≠[]:=by rintro rfl; simp [flat] at hu
   obtain ⟨b,off,hA',_,hc⟩:=hr hne
   injection hA' with hA'
   subst hA'
   rw [Zsl]
   exact hc j u hu
  obtain ⟨v',w',hrun,h2,h3,_,h5⟩:=run_append_own_at (P:=P) w base t ty e i z (Enc.k α) bytes T.ht hi hz hs hb hzs Enc.pos v ys.length (flat ys) hown ad xs.length c (flat xs) (Zd6 xs) hnews (Zl4 xs) h63 hbytes hbase
  refine ⟨v',w',hrun,?_,h3,h5⟩
  have e1:(ys++xs).length=ys.length+xs.length:=List.length_append
  unfold Own
  rw [e1,Znq]
  exact h2
theorem Up.grown' {α:Type} [Enc α] {w0 w w':World} {base e:Nat} {v:Value} {ys:List α} (h:Up w0 w) (hg:w.grownBy w' v.ownBlock) (hown:Own w base e v ys) (hb:w0.heap.size≤base):Up w0 w':=
 Below.grown h hg h.size (fun k hk=>Nat.le_trans hb (World.ownsRow.lt hown k hk).1)
theorem Zm6 {α:Type} [Enc α] {P:Program} {w:World} {o:Oper} {a:Act} {K:Act→World→Prop} {Q:Exit→Act→World→Prop} {t e bytes:Nat} (T:ElT P t e (Enc.k α) bytes)
 (s x:Operand) (ho:o.op=.call { callee:=.builtin .append,args:=#[s,x],argTypes:=#[t,t] })
 {base:Nat} {v:Value} {ys:List α} (hs:a.eval s=v) (hown:Own w base e v ys)
 {B:Nat} {A:Option Addr} {c:Nat} {xs:List α} (n:Nat) (hx:a.eval x=.slice A n c) (hn:n=xs.length) (hr:Rd w B A xs)
 (hbytes:(ys.length+xs.length)*bytes≤140737488355328) (h63:ys.length+xs.length≤maxLen) (hbase:base≤w.heap.size)
 (h:∀ v' w',Own w' base e v' (ys++xs)→w.grownBy w' v.ownBlock→(v'.ownBlock=v.ownBlock∨v'.ownBlock=some w.heap.size)→(∀ w0,w0.heap.size≤base→Up w0 w→Up w0 w')→K (a.put o.dst v') w'):
 o.wp P a w K Q:=by
 subst hn
 obtain ⟨v',w',hrun,h2,h3,h4⟩:=Zly (P:=P) w (ty:=o.type) (c:=c) T hown hr hbytes h63 hbase
 unfold Oper.wp execOp
 simp only [ho,resolve,invoke,builtin,Sem.run_bind,Sem.run_pure,Result.andThen_ok,List.map_toArray,List.map_cons,List.map_nil,hs,hx,hrun]
 exact h v' w' h2 h3 h4 fun w0 hb hu=>Up.grown' hu h3 hown hb
theorem ZN {α:Type} [Enc α] {P:Program} {w:World} {ops:Array Oper} {rest:List Oper} {o:Oper} {a:Act} {Q:Exit→Act→World→Prop} {t e bytes:Nat} (T:ElT P t e (Enc.k α) bytes)
 (hgd:o.guard=none) (s x:Operand) (ho:o.op=.call { callee:=.builtin .append,args:=#[s,x],argTypes:=#[t,t] })
 {base:Nat} {v:Value} {ys:List α} (hs:a.eval s=v) (hown:Own w base e v ys)
 {B:Nat} {A:Option Addr} {c:Nat} {xs:List α} (n:Nat) (hx:a.eval x=.slice A n c) (hn:n=xs.length) (hr:Rd w B A xs)
 (hbytes:(ys.length+xs.length)*bytes≤140737488355328) (h63:ys.length+xs.length≤maxLen) (hbase:base≤w.heap.size)
 (h:∀ v' w',Own w' base e v' (ys++xs)→w.grownBy w' v.ownBlock→(v'.ownBlock=v.ownBlock∨v'.ownBlock=some w.heap.size)→(∀ w0,w0.heap.size≤base→Up w0 w→Up w0 w')→wpList P ops Q rest (a.put o.dst v') w'):
 wpList P ops Q (o::rest) a w:=
 wpList_plain hgd fun _ hK=>Zm6 T s x ho hs hown n hx hn hr hbytes h63 hbase fun v' w' h2 h3 h4 h5=>hK _ _ (h v' w' h2 h3 h4 h5)
end Go.Proofs.YtmcdjilbkmhfoaaGreat
namespace Go.Proofs.YtmcdjilbkmhfoaaGreat
set_option maxRecDepth 10000
open Go.RowKit Go.Maps Go.WideMaps
set_option linter.unusedVariables false
set_option linter.unusedSimpArgs false
instance:Enc ByteArray where
 cells x:=[.string x]
 k:=1
 len _:=rfl
 pos:=by decide
 one:=by simp [Value.oneCell']
theorem Zl5 (ls:List ByteArray):flat ls=ls.map Value.string:=by
 induction ls with
 | nil=>rfl
 | cons x xs ih=>rw [ZhX,ih]; rfl
def inL (S:List ByteArray) (s:ByteArray):Bool:=S.any fun y=>decide (y=s)
theorem ZqQ {S:List ByteArray} {s:ByteArray}:inL S s=true↔s∈S:=by simp [inL]
theorem Zow (S:List ByteArray) (s s':ByteArray):inL (S++[s]) s'=(inL S s' || decide (s=s')):=by simp [inL]
def dd (out:List ByteArray) (s:ByteArray):List ByteArray:=if inL out s=true then out else out++[s]
def ZdY (n:Za):List ByteArray:=n.legs.flatMap fun l=>[l.from_,l.to_]
theorem Zcq {w w':World} {row:Option Nat} (h:w.grownBy w' row) {b o:Nat} (hb:b<w.heap.size) (hne:some b≠row):w'.cell? ⟨b,o,none⟩=w.cell? ⟨b,o,none⟩:=by simp [World.cell?,h.block b hb hne]
theorem Rd.oneAt {α:Type} [Enc α] (w:World) (T:TypeId) (x:α) (H:Nat) (hH:w.heap.size=H):Rd (w.alloc (.cells (Enc.cells x).toArray T)) (H+1) (some ⟨H,0,none⟩) [x]:=by
 subst hH
 exact Rd.one w T x _ (Nat.lt_succ_self _)
theorem Zij {w:World} {b o:Nat} {u:Value} {ob:Obj} (h:w.cell? ⟨b,o,none⟩=some u):(w.alloc ob).cell? ⟨b,o,none⟩=some u:=
 ((Up.al ob (Up.rfl' w)).cell (p:=⟨b,o,none⟩) (World.block_lt_of_cell? _ _ h)).trans h
def SetM (P:Program) (k e:TypeId) (w:World) (b n:Nat) (S:List ByteArray):Prop:=
 ∃ D:DataW Unit,w.ownsMap P k (plainElem P e) b n D∧IsMap D∧∀ s:ByteArray,D.atKey (.string s.data.toList) (.lit (.bool false))=.lit (.bool (inL S s))
section
variable {P:Program} {k e:TypeId} {w:World} {b n:Nat} {S:List ByteArray}
theorem SetM.made (w:World):SetM P k e (w.alloc (.map #[] 0)) w.heap.size 0 []:=
 ⟨_,World.ownsMap_made w P k _,isMap_empty,fun s=>by simp [DataW.atKey,inL]⟩
theorem SetM.kept {w':World} {row:Option Nat} (h:SetM P k e w b n S) (hg:w.grownBy w' row) (hne:some b≠row):SetM P k e w' b n S:=by
 obtain ⟨D,h1,h2⟩:=h; exact ⟨D,h1.kept hg hne,h2⟩
theorem SetM.alloc (h:SetM P k e w b n S) (o:Obj):SetM P k e (w.alloc o) b n S:=by
 obtain ⟨D,h1,h2⟩:=h; exact ⟨D,h1.alloc o,h2⟩
theorem SetM.setCell (h:SetM P k e w b n S) {a:Addr} (ha:b≠a.block) (u:Value):SetM P k e (w.setCell a u) b n S:=by
 obtain ⟨D,h1,h2⟩:=h; exact ⟨D,h1.setCell ha u,h2⟩
theorem SetM.mono (h:SetM P k e w b n S) {n':Nat} (hn:n≤n'):SetM P k e w b n' S:=by
 obtain ⟨D,h1,h2⟩:=h; exact ⟨D,h1.mono hn,h2⟩
theorem SetM.lt (h:SetM P k e w b n S):b<w.heap.size:=by obtain ⟨D,h1,_⟩:=h; exact h1.lt
theorem ZuA {a b:Bool} (h:(DataW.lit (.bool a):DataW Unit)=.lit (.bool b)):a=b:=by simpa using h
theorem Zsq (he:P.underlying e=some .bool) {v:Value} {z:DataW Unit × List MemPlace} (h:plainElem P e v=some z):∃ c,v=.bool c∧z=(.lit (.bool c),[]):=by
 unfold plainElem at h
 rw [he] at h
 cases v <;> simp at h
 exact ⟨_,rfl,h.symm⟩
theorem Zs (w:World) {ops:Array Oper} {rest:List Oper} {o:Oper} {a:Act} {Q:Exit→Act→World→Prop}
 (hg:o.guard=none) (m x:Operand) (t:TypeId) (hop:o.op=Op.lookup t m x false)
 (k e:TypeId) (hk:P.underlying k=some .string) (ht:P.underlying t=some (.map k e)) (he:P.underlying e=some .bool) (hz:∀ w,(zeroValue e).run P w=.ok (.bool false) w) (b n:Nat) (S:List ByteArray)
 (hm:a.eval m=.map (some b)) (hown:SetM P k e w b n S) (s:ByteArray) (hx:a.eval x=.string s) (hs:s.size≤maxLen) (c:Bool) (hc:inL S s=c)
 (hK:wpList P ops Q rest (a.put o.dst (.bool c)) w):
 wpList P ops Q (o::rest) a w:=by
 refine wpList_plain hg fun K' hK'=>?_
 subst hc
 obtain ⟨D,h1,h2,h3⟩:=hown
 obtain ⟨v,ps,hrun,hv⟩:=h1.lookup (string_keyed hk) ht (hz w) (plainElem_bool he false) (keyOf_string_mk hk hs)
 obtain ⟨c,rfl,hc⟩:=Zsq he hv
 simp only [Prod.mk.injEq] at hc
 have hcc:c=inL S s:=ZuA (hc.1.symm.trans (h3 s))
 subst hcc
 unfold Oper.wp
 simp [execOp,hop,hm,hx,hrun,Result.andThen]
 exact hK' _ _ hK
theorem Zac (w:World) {ops:Array Oper} {rest:List Oper} {o:Oper} {a:Act} {Q:Exit→Act→World→Prop}
 (hg:o.guard=none) (m x v:Operand) (t:TypeId) (hop:o.op=Op.mapUpdate t m x v)
 (k e:TypeId) (hk:P.underlying k=some .string) (ht:P.underlying t=some (.map k e)) (he:P.underlying e=some .bool) (b n:Nat) (S:List ByteArray)
 (hm:a.eval m=.map (some b)) (hown:SetM P k e w b n S) (hn:n<maxLen) (s:ByteArray) (hx:a.eval x=.string s) (hv:a.eval v=.bool true) (hs:s.size≤maxLen)
 (hK:∀ w',SetM P k e w' b (n+1) (S++[s])→w.grownBy w' (some b)→wpList P ops Q rest (a.put o.dst undef) w'):
 wpList P ops Q (o::rest) a w:=by
 refine wpList_plain hg fun K' hK'=>?_
 obtain ⟨D,h1,h2,h3⟩:=hown
 obtain ⟨w',hrun,r1,r2⟩:=h1.update (string_keyed hk) ht hn (keyOf_string_mk hk hs) (plainElem_bool (H:=Unit) he true)
 unfold Oper.wp
 simp [execOp,hop,hm,hx,hv,hrun,Result.andThen]
 refine hK' _ _ (hK w' ⟨_,r1,h2.put _ _,fun s'=>?_⟩ r2)
 by_cases e:s'=s
 ·subst e
  rw [atKey_put_same h2 (by simp [WideAt.IsKeyLit])]
  rw [Zow]; simp
 ·rw [atKey_put_other (by intro h; simp at h; exact e (by obtain ⟨⟨x⟩⟩:=s'; obtain ⟨⟨y⟩⟩:=s; simpa using h)),h3 s',Zow,decide_eq_false (fun h=>e h.symm),Bool.or_false]
end
end Go.Proofs.YtmcdjilbkmhfoaaGreat
namespace Go.Proofs
open Go.Shelf
def Tryz.lays106_ren:Go.Shelf.Ren:=⟨fun | 106=>254 | 213=>272 | 265=>285 | n=>n,fun | 9=>9 | 3=>3 | n=>n,fun | n=>n⟩
theorem Tryz.lays106:Go.Proofs.Lays.n106 Tryz.prog Tryz.lays106_ren:={
 mixed:=by kernel_rfl
 f106:=Tryz.func254.trans (congrArg some (by kernel_rfl))
 f213:=Tryz.func272.trans (congrArg some (by kernel_rfl))
 f265:=Tryz.func285.trans (congrArg some (by kernel_rfl))
 t3:=Tryz.underlying3
 a3:=Tryz.isAgg3
 z3:=Tryz.sizeOf3
 v3:=Tryz.zeroValue3
 t9:=Tryz.underlying9
 a9:=Tryz.isAgg9
 z9:=Tryz.sizeOf9
 v9:=Tryz.zeroValue9 }
open Go.RowKit in
theorem Tryz.strings_Compare (a b:ByteArray) (w:World):
 Calls Tryz.prog 254 #[.string a,.string b] w fun e w'=>e=.returned (.int .i64 (Lib.compareBytes a.data.toList b.data.toList))∧w'=w:=Any.strings_Compare Tryz.lays106 a b w
def Tryz.lays192_ren:Go.Shelf.Ren:=⟨fun | 192=>206 | 190=>246 | 125=>271 | 258=>270 | 128=>283 | 129=>284 | 302=>274 | 303=>275 | 304=>276 | 305=>277 | 306=>278 | 307=>279 | 308=>280 | 309=>281 | 310=>282 | 333=>287 | 329=>288 | 330=>289 | 334=>290 | 335=>291 | 336=>292 | 344=>293 | n=>n,fun | 31=>81 | 0=>0 | 9=>9 | 3=>3 | 46=>230 | 51=>271 | 53=>273 | 4=>4 | 183=>263 | 182=>262 | 131=>268 | 5=>5 | 218=>274 | 222=>278 | 228=>280 | 229=>281 | n=>n,fun | n=>n⟩
theorem Tryz.lays192:Go.Proofs.Lays.n192 Tryz.prog Tryz.lays192_ren:={
 mixed:=by kernel_rfl
 f125:=Tryz.func271.trans (congrArg some (by kernel_rfl))
 f128:=Tryz.func283.trans (congrArg some (by kernel_rfl))
 f129:=Tryz.func284.trans (congrArg some (by kernel_rfl))
 f190:=Tryz.func246.trans (congrArg some (by kernel_rfl))
 f192:=Tryz.func206.trans (congrArg some (by kernel_rfl))
 f258:=Tryz.func270.trans (congrArg some (by kernel_rfl))
 f302:=Tryz.func274.trans (congrArg some (by kernel_rfl))
 f303:=Tryz.func275.trans (congrArg some (by kernel_rfl))
 f304:=Tryz.func276.trans (congrArg some (by kernel_rfl))
 f305:=Tryz.func277.trans (congrArg some (by kernel_rfl))
 f306:=Tryz.func278.trans (congrArg some (by kernel_rfl))
 f307:=Tryz.func279.trans (congrArg some (by kernel_rfl))
 f308:=Tryz.func280.trans (congrArg some (by kernel_rfl))
 f309:=Tryz.func281.trans (congrArg some (by kernel_rfl))
 f310:=Tryz.func282.trans (congrArg some (by kernel_rfl))
 f329:=Tryz.func288.trans (congrArg some (by kernel_rfl))
 f330:=Tryz.func289.trans (congrArg some (by kernel_rfl))
 f333:=Tryz.func287.trans (congrArg some (by kernel_rfl))
 f334:=Tryz.func290.trans (congrArg some (by kernel_rfl))
 f335:=Tryz.func291.trans (congrArg some (by kernel_rfl))
 f336:=Tryz.func292.trans (congrArg some (by kernel_rfl))
 f344:=Tryz.func293.trans (congrArg some (by kernel_rfl))
 t0:=Tryz.underlying0
 a0:=Tryz.isAgg0
 z0:=Tryz.sizeOf0
 v0:=Tryz.zeroValue0
 t3:=Tryz.underlying3
 a3:=Tryz.isAgg3
 z3:=Tryz.sizeOf3
 v3:=Tryz.zeroValue3
 t4:=Tryz.underlying4
 a4:=Tryz.isAgg4
 z4:=Tryz.sizeOf4
 v4:=Tryz.zeroValue4
 t5:=Tryz.underlying5
 a5:=Tryz.isAgg5
 z5:=Tryz.sizeOf5
 v5:=Tryz.zeroValue5
 t9:=Tryz.underlying9
 a9:=Tryz.isAgg9
 z9:=Tryz.sizeOf9
 v9:=Tryz.zeroValue9
 t31:=Tryz.underlying81
 a31:=Tryz.isAgg81
 z31:=Tryz.sizeOf81
 v31:=Tryz.zeroValue81
 t46:=Tryz.underlying230
 a46:=Tryz.isAgg230
 z46:=Tryz.sizeOf230
 v46:=Tryz.zeroValue230
 t51:=Tryz.underlying271
 a51:=Tryz.isAgg271
 z51:=Tryz.sizeOf271
 v51:=Tryz.zeroValue271
 t53:=Tryz.underlying273
 a53:=Tryz.isAgg273
 z53:=Tryz.sizeOf273
 v53:=Tryz.zeroValue273
 t131:=Tryz.underlying268
 a131:=Tryz.isAgg268
 z131:=Tryz.sizeOf268
 v131:=Tryz.zeroValue268
 t182:=Tryz.underlying262
 a182:=Tryz.isAgg262
 z182:=Tryz.sizeOf262
 v182:=Tryz.zeroValue262
 t183:=Tryz.underlying263
 a183:=Tryz.isAgg263
 z183:=Tryz.sizeOf263
 v183:=Tryz.zeroValue263
 t218:=Tryz.underlying274
 a218:=Tryz.isAgg274
 z218:=Tryz.sizeOf274
 v218:=Tryz.zeroValue274
 t222:=Tryz.underlying278
 a222:=Tryz.isAgg278
 z222:=Tryz.sizeOf278
 v222:=Tryz.zeroValue278
 t228:=Tryz.underlying280
 a228:=Tryz.isAgg280
 z228:=Tryz.sizeOf280
 v228:=Tryz.zeroValue280
 t229:=Tryz.underlying281
 a229:=Tryz.isAgg281
 z229:=Tryz.sizeOf281
 v229:=Tryz.zeroValue281 }
open Go.Sort Go.RowKit in
theorem Tryz.sort_Strings (blk off cap:Nat) (ss:List (List UInt8)) (w:World) (hH:Holds encStr w blk off ss.toArray) (hblk:blk<w.heap.size) (hsz:ss.length<4611686018427387904):
 Calls Tryz.prog 206 #[.slice (some ⟨blk,off,none⟩) ss.length cap] w fun e w'=>
  e=.returned (.tuple #[])∧∃ n os,w'=grow (putRow encStr (Sort.ahead w n) blk off (ss.mergeSort fun x y=>decide (x≤y)).toArray) os:=Any.sort_Strings Tryz.lays192 blk off cap ss w hH hblk hsz
def Tryz.laysGt8_ren:Go.Shelf.Ren:=⟨fun | 8=>200 | 13=>239 | 14=>240 | 16=>242 | 15=>241 | 29=>268 | 30=>269 | 42=>273 | 49=>286 | n=>n,fun | 20=>20 | 26=>206 | 36=>239 | 0=>0 | 38=>241 | 42=>245 | 3=>3 | 4=>4 | 47=>230 | 17=>17 | 33=>236 | 34=>237 | 89=>296 | 12=>12 | 56=>271 | 82=>289 | 5=>5 | 83=>290 | 84=>291 | 85=>292 | 86=>293 | 87=>294 | n=>n,fun | n=>n⟩
theorem Tryz.laysGt8:Go.Proofs.LaysGt.n8 Tryz.prog Tryz.laysGt8_ren:={
 mixed:=by kernel_rfl
 f8:=Tryz.func200.trans (congrArg some (by kernel_rfl))
 f13:=Tryz.func239.trans (congrArg some (by kernel_rfl))
 f14:=Tryz.func240.trans (congrArg some (by kernel_rfl))
 f15:=Tryz.func241.trans (congrArg some (by kernel_rfl))
 f16:=Tryz.func242.trans (congrArg some (by kernel_rfl))
 f29:=Tryz.func268.trans (congrArg some (by kernel_rfl))
 f30:=Tryz.func269.trans (congrArg some (by kernel_rfl))
 f42:=Tryz.func273.trans (congrArg some (by kernel_rfl))
 f49:=Tryz.func286.trans (congrArg some (by kernel_rfl))
 t0:=Tryz.underlying0
 a0:=Tryz.isAgg0
 z0:=Tryz.sizeOf0
 v0:=Tryz.zeroValue0
 i0:=by kernel_rfl
 t3:=Tryz.underlying3
 a3:=Tryz.isAgg3
 z3:=Tryz.sizeOf3
 v3:=Tryz.zeroValue3
 i3:=by kernel_rfl
 t4:=Tryz.underlying4
 a4:=Tryz.isAgg4
 z4:=Tryz.sizeOf4
 v4:=Tryz.zeroValue4
 i4:=by kernel_rfl
 t5:=Tryz.underlying5
 a5:=Tryz.isAgg5
 z5:=Tryz.sizeOf5
 v5:=Tryz.zeroValue5
 i5:=by kernel_rfl
 t12:=Tryz.underlying12
 a12:=Tryz.isAgg12
 z12:=Tryz.sizeOf12
 v12:=Tryz.zeroValue12
 i12:=by kernel_rfl
 t17:=Tryz.underlying17
 a17:=Tryz.isAgg17
 z17:=Tryz.sizeOf17
 v17:=Tryz.zeroValue17
 i17:=by kernel_rfl
 t20:=Tryz.underlying20
 a20:=Tryz.isAgg20
 z20:=Tryz.sizeOf20
 v20:=Tryz.zeroValue20
 i20:=by kernel_rfl
 t26:=Tryz.underlying206
 a26:=Tryz.isAgg206
 z26:=Tryz.sizeOf206
 v26:=Tryz.zeroValue206
 i26:=by kernel_rfl
 t33:=Tryz.underlying236
 a33:=Tryz.isAgg236
 z33:=Tryz.sizeOf236
 v33:=Tryz.zeroValue236
 i33:=by kernel_rfl
 t34:=Tryz.underlying237
 a34:=Tryz.isAgg237
 z34:=Tryz.sizeOf237
 v34:=Tryz.zeroValue237
 i34:=by kernel_rfl
 t36:=Tryz.underlying239
 a36:=Tryz.isAgg239
 z36:=Tryz.sizeOf239
 v36:=Tryz.zeroValue239
 i36:=by kernel_rfl
 t38:=Tryz.underlying241
 a38:=Tryz.isAgg241
 z38:=Tryz.sizeOf241
 v38:=Tryz.zeroValue241
 i38:=by kernel_rfl
 t42:=Tryz.underlying245
 a42:=Tryz.isAgg245
 z42:=Tryz.sizeOf245
 v42:=Tryz.zeroValue245
 i42:=by kernel_rfl
 t47:=Tryz.underlying230
 a47:=Tryz.isAgg230
 z47:=Tryz.sizeOf230
 v47:=Tryz.zeroValue230
 i47:=by kernel_rfl
 t56:=Tryz.underlying271
 a56:=Tryz.isAgg271
 z56:=Tryz.sizeOf271
 v56:=Tryz.zeroValue271
 i56:=by kernel_rfl
 t82:=Tryz.underlying289
 a82:=Tryz.isAgg289
 z82:=Tryz.sizeOf289
 v82:=Tryz.zeroValue289
 i82:=by kernel_rfl
 t83:=Tryz.underlying290
 a83:=Tryz.isAgg290
 z83:=Tryz.sizeOf290
 v83:=Tryz.zeroValue290
 i83:=by kernel_rfl
 t84:=Tryz.underlying291
 a84:=Tryz.isAgg291
 z84:=Tryz.sizeOf291
 v84:=Tryz.zeroValue291
 i84:=by kernel_rfl
 t85:=Tryz.underlying292
 a85:=Tryz.isAgg292
 z85:=Tryz.sizeOf292
 v85:=Tryz.zeroValue292
 i85:=by kernel_rfl
 t86:=Tryz.underlying293
 a86:=Tryz.isAgg293
 z86:=Tryz.sizeOf293
 v86:=Tryz.zeroValue293
 i86:=by kernel_rfl
 t87:=Tryz.underlying294
 a87:=Tryz.isAgg294
 z87:=Tryz.sizeOf294
 v87:=Tryz.zeroValue294
 i87:=by kernel_rfl
 t89:=Tryz.underlying296
 a89:=Tryz.isAgg296
 z89:=Tryz.sizeOf296
 v89:=Tryz.zeroValue296
 i89:=by kernel_rfl }
end Go.Proofs
namespace Go.Proofs.YtmcdjilbkmhfoaaGreat
set_option maxRecDepth 10000
open Go.RowKit
set_option linter.unusedVariables false
set_option linter.unusedSimpArgs false
def srtS (xs:List ByteArray):List ByteArray:=((xs.map fun b:ByteArray=>b.data.toList).mergeSort fun x y=>decide (x≤y)).map fun l=>⟨l.toArray⟩
theorem Zo1 (xs:List ByteArray):(srtS xs).length=xs.length:=by simp [srtS]
end Go.Proofs.YtmcdjilbkmhfoaaGreat
