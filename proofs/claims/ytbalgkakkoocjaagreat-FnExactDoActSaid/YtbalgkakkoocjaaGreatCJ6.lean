/- A part of the proof of the statement in the last file of this claim: texts on the language of the program and on its functions. No condition. -/
import Derived.Test.YtbalgkakkoocjaaGreatCJ4
import Derived.Lib.Hide
import Derived.Test.YtbalgkakkoocjaaGreatCJ3
import Derived.Test.YtbalgkakkoocjaaGreatCJ1
set_option linter.unusedVariables false
set_option linter.unusedSimpArgs false
set_option linter.unusedSectionVars false
open Go.Value renaming int->ZF
open Go.IntKind renaming i64->ZG
open Go renaming undef->ZH
open Option renaming some->ZA,none->ZB
open Bool renaming true->ZC,false->ZD
open Decidable renaming decide->ZE
open Go.Proofs.Tryz
set_option maxHeartbeats 40000000
open List renaming replicate->VW,getElem?_eq_getElem->VF,range->Wq,range_succ->WV,drop_length->WS,append_nil->Wy,length_set->Ws,set_set->Xn,cons_append->W7,take_append_drop->Xs,length_cons->VL,getElem?_cons_succ->XC,take_succ_cons->XS,getElem_mem->Wd,take_add_one->WY,take_length->WA,length_map->VX,mem_map->V6,mem_cons->VM,not_mem_nil->VP,getElem?_eq_some_iff->VH,mem_of_getElem?->VI,getElem?_mapIdx->WW,length->Yi,length_eq_zero_iff->W4
open _root_.Int renaming toNat->V0,toNat_natCast->We,le_refl->Wp,le_trans->WM
open Option renaming bind_some->VE,map_eq_some_iff->VT
open Sum renaming inl->W6
open Bool renaming not_true->VK
open _root_.Array renaming getElem?_eq_some_iff->VQ,getElem?_setIfInBounds_self_of_lt->XI,getElem?_setIfInBounds_ne->Xo,getElem?_eq_getElem->VU
open Nat renaming le_refl->VJ,le_trans->Wb,lt_of_lt_of_le->V4,mod_lt->XM,lt_irrefl->XW,lt_or_ge->Wg,not_lt_zero->WE,mul_le_mul_right->V1
open Ne renaming symm->XA
open Option.some renaming inj->VG
open And renaming intro->Wt
namespace Go.Proofs.YtbalgkakkoocjaaGreat
set_option maxRecDepth 10000
open Go.RowKit
variable {B:cL}{E:Env}{O Q' S:Nat->Prop}{W:Nat->cL}{args cs:List PV}{c:Code}{es:List (List PV)}{f:FuncId}{fn:Func}{i j:Nat}{k q:Int}{l:List aw}{m0 m1:Mem}{os:List ZJ}{p:Prop}{r:PV}{rs:Array ResultVar}{u v:Value}{us:Nat->Value}{x:ZI}{α:Type}
inductive LL:List (Option Nat)->Mem->Prop
 |n:LL [] []
 |c {r:Option Nat} {x:Option MB} {l:List (Option Nat)} {m:Mem} (h:LL l m):LL (r::l) (x::m)
theorem ZoL{n0:Nat}{t t':List PV}{m m':Mem}{l:List (Option Nat)}(hk:LL l m')(hl:zA n0 0 l m'=ZC)(hT:J9 (yx l) m m' t t')(hM:pg l m m' l m')(hi:PU l=ZC):tz n0 t m t' m':=Zkd hT hM hi hl
theorem xcs(h:p:=by(try simp only[U_s,U_z]);(with_reducible refine ZoM ?_);(with_reducible apply ZoL);(repeat' (first|(with_reducible exact Zk6) |(with_reducible refine Zk7 ?_) |(with_reducible refine Zk8 ?_) |(with_reducible refine Zhc ?_) |(with_reducible refine Zkb ?_ ?_) |(with_reducible exact Zd0) |exact LL.n|(apply LL.c) |(with_reducible exact Zd1 rfl) |exact Zd1 rfl|(with_reducible exact ZdZ) |(with_reducible refine Zka ?_ ?_) |exact .c _ rfl|exact .un _|exact Zhb rfl rfl|exact Zha rfl rfl|exact O6|exact SD|exact SC rfl rfl|(refine O5 rfl ?_) |(refine ZdY rfl rfl ?_) |(refine Zbj rfl rfl ?_) |(refine ZdX rfl rfl rfl ?_) |(refine ZdV rfl rfl ?_) |(with_reducible refine ZdW ?_) |(with_reducible refine Zhd ?_) |(with_reducible refine Zhe ?_) |(with_reducible exact Zbe) |(with_reducible refine Zg8 ?_ ?_) |(with_reducible refine Zg7 ?_) |(with_reducible refine Zj5 ?_) |(with_reducible refine Zkc ?_) |(with_reducible exact Uj) |(refine Rh rfl ?_ ?_) |(refine Ri rfl ?_) |(refine Ui rfl ?_) |(with_reducible refine Rg ?_) |(with_reducible refine ZdS ?_) |(with_reducible exact ZdR) |(have _:=ky_;exact Zg9) |(with_reducible refine ZdU ?_) |(with_reducible exact Zj8) |(with_reducible refine Zj7 ?_ ?_) |(with_reducible exact Ei) |(with_reducible refine O4 ?_) |exact Ei|(refine O4 ?_) |(refine ZdT ?_) |(have _:=ky_;refine Zbf rfl ?_) |(refine Zbi ?_) |(refine Zbh rfl ?_) |(refine SB rfl (by exact k1) rfl rfl ?_) |(have _:=ky_;refine Zbg rfl (by exact k1) rfl rfl ?_) |(refine KQ ?_ rfl (by exact k1) rfl rfl ?_) |(simp only[aI,km,H9,cB8,Im,sE,bq,b6,b9,br,bE,aS,aC,bt,aY,fa,bD,ZK,ZM,Bl,Ef,Eg,CC,BG,CB]) |(with_unfolding_all rfl)));(all_goals first|(exact Iv rfl) |exact none|exact[]);(first|done|fail)):p:=h
theorem xss(h:p:=by(refine cq.UH (CT.ok hy) ?_);(repeat' (first|exact Gb.n|(refine Gb.c ?_ ?_) |exact Hs.c (yY.r _) |exact Hs.c (yY.nil _) |(refine Hs.ag ?_) |exact Gc.n|(refine Gc.c ?_ ?_) |exact yY.r _|exact yY.nil _|exact yY.un _));(first|done|fail)):p:=h
theorem qgd(h:p:=by first|(simp only[go_sem];done) |(simp only[go_sem];decide)):p:=h
theorem Ha(h:p:=by first|(simp only[go_sem];done) |(simp only[go_sem];rfl)):p:=h
theorem qgi(h:p:=by first|rfl|(simp only[go_sem];rfl)):p:=h
theorem qgs(h:p:=by first|rfl|exact Zi1 (by rfl) (by rfl) (by rfl)):p:=h
theorem qi1(h:p:=by first|rfl|(simp only[CT.args,List.map_cons,List.map_nil,DI,vt,yR,ZjM,ZjL,ZjK];done)):p:=h
theorem qi2(h:p:=by simp[CT.args,CT.m0,wT,er,M3,B9,Gr,I2]):p:=h
theorem qi3(h:p:=by first|exact List.nodup_nil|decide):p:=h
theorem qi4(h:p:=by(simp only[CT.m0]);(repeat' (first|exact Tf|(refine Te (by rfl) ?_) |(refine Tg (by rfl) (by rfl) (by simp[er,B9,Gr,I2]) ?_)))):p:=h
theorem qi5(h:p:=by intro y_;simp[CT.mem,CT.m0]):p:=h
theorem qi6(h:p:=by intro y_;(simp only[CT.mem]);(repeat(first|exact ZeJ|exact MN|exact GV|(refine ZbN MN ?_) |(refine ZbN (uy (by simp[er,I2])) ?_) |exact uy (by simp[er,I2]) |(refine Vm ?_)))):p:=h
theorem qi7(h:p:=by intro y_;(simp[CT.res,tt,wT,er,I2])):p:=h
theorem qsn(h:p:=by(simp only[DQ,JJ,DR,JI,Lm,Zfj,Zfi,Rf,CL,DW,List.forall_mem_nil,true_and,and_true,if_true]);(first|exact CT.ok hy|(simp only[all_nil,all_cons,uW,yu,true_and,and_true,if_true];exact CT.ok hy) |exact xss|(simp only[all_nil,all_cons,uW,yu,true_and,and_true,if_true];exact xss))):p:=h
theorem qgV(h:p:=by first|exact ZmP rfl|exact ZmQ rfl|exact Zkj rfl|exact Zkk rfl|exact(fun h=>(by cases h)) |(simp[CT.res,tt,wT,er,I2])):p:=h
theorem qgF(h:p:=by first|exact Zki rfl|exact(fun _=>rfl) |(simp[CT.res,tt,wT,er,PY])):p:=h
theorem RV(h:p:=by
 (simp only[List.length_cons,List.length_nil,Nat.reduceAdd,Nat.reduceSub,List.replicate_succ,List.replicate_zero,List.cons_append,List.nil_append,go_sem]);
 repeat' (first
  |((with_reducible refine ZeV H ?_ ?_)<;>(clear H;intro H;(try(refine ZhJ (by rfl) (by rfl) qgd qgi ?_;simp only[go_sem,Nat.reduceAdd,Nat.reduceSub,Nat.reduceMul,Nat.reduceLT,Nat.reduceLeDiff,Nat.reduceEqDiff,if_true,eq_self,Int.reduceToNat]))))
  |((with_reducible refine Zil ?_ ?_ ?_);(focus (simp[I2]));(focus (simp only[go_sem]));(simp only[List.cons_append,List.nil_append]))
  |((with_reducible refine ZnR (ZnQ H) ?_);(refine ZdC H rfl rfl ?_ ?_ ?_ ?_ ?_ ?_ ?_ ?_);(focus exact qi1);(focus exact qi2);(focus exact qi3);(focus exact qi4);(focus exact qi5);(focus exact qi6);(focus exact qi7);(clear H;intro y_ hy H;simp only[CT.res,CT.mem,qi,List.drop_succ_cons,List.drop_zero,Option.map_none,go_sem,Nat.reduceAdd,Nat.reduceSub,Nat.reduceMul,Nat.reduceLT,Nat.reduceLeDiff,Nat.reduceEqDiff,if_true,eq_self]))
  |((with_reducible refine jnS (jnH H) ?_);(first|((refine ZiC H ?_ ?_ (fun K_ hL H=>?_) (fun o_ H=>?_));(focus (decide +kernel));(focus (decide +kernel))) |((refine Zf1 H ?_ ?_ (fun K_ hL H=>?_) (fun o_ H=>?_));(focus (decide +kernel));(focus (decide +kernel)))))
  |((with_reducible refine Zqa (ZnQ H) ?_);(refine Zg4 H rfl rfl rfl ?_ ?_ ?_ ?_ ?_ ?_ ?_ ?_);(focus exact qi1);(focus exact qi2);(focus exact qi3);(focus exact qi4);(focus exact qi5);(focus exact qi6);(focus exact qi7);(clear H;intro y_ hy H;simp only[CT.res,CT.mem,qi,List.drop_succ_cons,List.drop_zero,Option.map_none,go_sem,Nat.reduceAdd,Nat.reduceSub,Nat.reduceMul,Nat.reduceLT,Nat.reduceLeDiff,Nat.reduceEqDiff,if_true,eq_self]))
  |((with_reducible refine Zf0 H ?_ ?_);(focus exact xcs);(clear H;intro z_ H))
  |((with_reducible refine ZiB H ?_ ?_);(focus exact xcs);(clear H;intro H))
  |((with_reducible refine ZiE ?_);intro K_ hK)
  |(with_reducible refine ZcG ?_)
  |((first|((with_reducible refine ZfY H rfl (by kernel_rfl) ?_);(clear H;intro H)) |(with_reducible refine Ub ?_) |((with_reducible refine ZmR ?_);(refine Pt (fun hg=>Zl8 H hg ?_) (fun hg=>Zl9 H hg ?_))<;>(clear H;intro H)) |((with_reducible refine ZpK ?_);replace H:=Hn H;obtain⟨y_,hy,H⟩:=H;(with_reducible apply Zk2 hy);(focus exact qgd);(focus exact qgi)) |((with_reducible refine ZpJ ?_);replace H:=Hn H;obtain⟨y_,hy,H⟩:=H;(first|refine ZhK hy (by rfl) qgd qgi ?_|refine ZeW hy (by rfl) qgd qgi ?_)) |((with_reducible refine ZpI ?_);replace H:=Hn H;obtain⟨y_,hy,H⟩:=H;(with_reducible apply ZhL hy);(focus (simp only[go_sem]))) |((with_reducible refine Zqf ?_);replace H:=ZgK H;obtain⟨hc,H⟩:=H;(first|((with_reducible apply Zgn hc);(focus rfl);(focus rfl);(focus exact qgd);(focus (first|rfl|(intro x_;rfl)))) |refine ZcX hc (by rfl) (by rfl) (by rfl) qgd qgi ?_|((with_reducible apply ZcY hc);(focus rfl);(focus rfl);(focus (simp only[go_sem]))))) |((with_reducible refine Zor ?_);replace H:=ZgK H;obtain⟨hc,H⟩:=H;(first|refine ZgX hc Ha Ha Ha Ha (by rfl) qgs rfl rfl (by intro x_;rfl) rfl ?_|refine ZgZ hc Ha Ha Ha Ha qgs rfl rfl (by intro x_;rfl) ?_|refine Zg0 hc Ha Ha Ha Ha (by rfl) qgs rfl rfl (by intro x_;rfl) rfl rfl rfl ?_|refine ZgW hc rfl Ha Ha Ha Ha (by rfl) (by rfl) (by rfl) (by rfl) rfl rfl (by rfl) ?_|refine ZgY hc rfl Ha Ha Ha Ha (by rfl) (by rfl) (by rfl) rfl rfl rfl ?_)) |((with_reducible refine mkS ?_);replace H:=ZgK H;obtain⟨hc,H⟩:=H;refine Zk9 hc Ha Ha Ha Ha rfl rfl ?_) |((with_reducible refine ZpR ?_);(first|(with_reducible refine Nw (by decide) ?_) |(replace H:=ZgK H;obtain⟨hc,H⟩:=H;(first|refine Nw hc ?_|refine Nw (of_decide_eq_true hc) ?_|refine Nw ⟨rfl,of_decide_eq_true hc⟩ ?_)))) |(with_reducible refine ZfX (by kernel_rfl) ?_))<;>simp only[go_sem,Nat.reduceAdd,Nat.reduceSub,Nat.reduceMul,Nat.reduceLT,Nat.reduceLeDiff,Nat.reduceEqDiff,if_true,eq_self])
  |((with_reducible refine Zf2 ?_);(try simp only[vw,ue]))
  |((with_reducible refine ZfZ ?_);(simp only[JW,Fb,vw,ue,if_true,if_false,eq_self,Nat.reduceEqDiff,Nat.one_ne_zero,Nat.zero_ne_one]);(try simp only[Zmn,bsr,bsl]at H))
  |((with_reducible refine ZiD ?_);(try simp only[LX,H5]))
  |((first|with_reducible refine hQ _ _ ?_|with_reducible refine Pz _ _ ?_);(try simp only[Zmn,bsr,bsl]at H);replace H:=Zoo H;subst H;simp only[Fin,ZcQ,Zii,go_sem,Nat.reduceAdd,Nat.reduceSub,Nat.reduceMul,Nat.reduceLT,Nat.reduceLeDiff,Nat.reduceEqDiff,if_true,eq_self];exact xcs)
  |((with_reducible refine ZcH ?_);simp only[Vd,Zet,Zes,Pq];(first|with_reducible refine ZdK ?_|with_reducible refine ZdJ ?_|((refine OY (fun hg=>Zl8 H hg ?_) (fun hg=>Zl9 H hg ?_))<;>(clear H;intro H))))
  |((with_reducible refine Zmq ?_);replace H:=Hn H;obtain⟨y_,hy,H⟩:=H;(first|((with_reducible apply ZaZ);(focus (first|exact CT.ok hy|exact xss));(focus (simp[ZbU,uW,yu]));(focus exact Nat.le_of_ble_eq_true rfl);(focus exact xf);(focus exact qgV)) |(have _:=ky_;(with_reducible apply ZdD);(focus exact qsn);(focus exact Nat.le_of_ble_eq_true rfl);(focus exact kf);(focus exact qgF)) |((with_reducible apply Za0);(focus exact qsn);(focus exact Nat.le_of_ble_eq_true rfl);(focus exact xf);(focus exact qgF)));simp only[CT.res,CT.mem,go_sem,Nat.reduceAdd,Nat.reduceSub,Nat.reduceMul,Nat.reduceLT,Nat.reduceLeDiff,Nat.reduceEqDiff,if_true,eq_self])
  |((with_reducible refine Znx ?_);(refine ZcJ (Hlp H) ?_ ?_);(focus (simp only[bj.T,bj.M,U_s,U_z];exact xcs));(clear H;intro n_ s_ H K_ hL;replace H:=Hrd H;simp only[bj.T,bj.M,U_s,U_z]))
  |((with_reducible refine SH (by kernel_rfl) ?_);(try simp only[vw,ue]))
  |(with_reducible refine hK _ _ ?_;clear hK)
  |(clear hK;with_reducible refine hK _ _ ?_;clear hK)
  |((iterate 2 clear hK);with_reducible refine hK _ _ ?_;clear hK)
  |((iterate 3 clear hK);with_reducible refine hK _ _ ?_;clear hK)
  |((iterate 4 clear hK);with_reducible refine hK _ _ ?_;clear hK)
  |((iterate 5 clear hK);with_reducible refine hK _ _ ?_;clear hK)
  |((with_reducible refine And.intro ?_ ?_);omega)
  |(simp only[Zac,Zaa,Zab,UW];simp only[go_sem,Nat.reduceAdd,Nat.reduceSub,Nat.reduceMul,Nat.reduceLT,Nat.reduceLeDiff,Nat.reduceEqDiff,if_true,eq_self])
  |(first|simp only[Znw hy,Option.map_some,List.drop_zero,go_sem] |simp only[ZjB hy,Option.map_some,List.drop_zero,go_sem] |simp only[Vp hy,ED hy,MV hy,go_sem,Nat.reduceAdd,Nat.reduceSub,Nat.reduceMul,Nat.reduceLT,Nat.reduceLeDiff,Nat.reduceEqDiff,if_true,eq_self] |simp only[ED hy,MV hy,go_sem,Nat.reduceAdd,Nat.reduceSub,Nat.reduceMul,Nat.reduceLT,Nat.reduceLeDiff,Nat.reduceEqDiff,if_true,eq_self])
  |((with_reducible replace H:=Zon H);(first|with_reducible refine hL _ _ _ H ?_|(clear hL;with_reducible refine hL _ _ _ H ?_));(try simp only[bj.T,bj.M,U_s,U_z]);exact xcs)
  |((with_reducible refine jnX H hL ?_);exact xcs)
  |(with_reducible exact(Zma H).elim)
  |((with_reducible replace H:=rgH H);obtain⟨y_,hy,H⟩:=H;(first|simp only[Znw hy,Option.map_some,List.drop_zero,go_sem] |simp only[ZjB hy,Option.map_some,List.drop_zero,go_sem] |simp only[Vp hy,ED hy,MV hy,go_sem,Nat.reduceAdd,Nat.reduceSub,Nat.reduceMul,Nat.reduceLT,Nat.reduceLeDiff,Nat.reduceEqDiff,if_true,eq_self] |simp only[ED hy,MV hy,go_sem,Nat.reduceAdd,Nat.reduceSub,Nat.reduceMul,Nat.reduceLT,Nat.reduceLeDiff,Nat.reduceEqDiff,if_true,eq_self])))):p:=h
theorem cw{P:Program}{A B:Option α}{x:α}(e:A=B)(hf:P.funcs[f]?=some fn){n:Nat}(hn:fn.ntmps=n)(hrs:fn.results=rs)(hb:fn.body=some c:=by exact rfl)
 (h:∀Q:Exit->List PV->Mem->Prop,B.bind some=some x->(∀t m,Fin P m0.length rs r m1 t m->Q .ret t m)->(∀t m,Fin P m0.length rs r m1 t m->Q .normal t m)->tp P m0.length c Q (args++VW (n-args.length) .ud) m0:=by intro Q H hQ Pz;exact RV) (H:A=some x):cq P f args m0 r m1:=jm hf hb hn hrs fun Q=>h Q (H0 (e▸H))
theorem ck{P:Program}{A B:Option α}{x:α}(e:A=B)(hf:P.funcs[f]?=some fn){n:Nat}(hn:fn.ntmps=n)(hrs:fn.results=rs)(hb:fn.body=some c:=by exact rfl)
 (h:∀Q:Exit->List PV->Mem->Prop,B.bind some=some x->(∀t m,Fin P m0.length rs r m1 t m->Q .ret t m)->(∀t m,Fin P m0.length rs r m1 t m->Q .normal t m)->tp P m0.length c Q (args++VW (n-args.length) .ud) m0:=by intro Q H hQ Pz;have ky_:=trivial;exact RV) (H:A=some x):cq P f args m0 r m1:=jm hf hb hn hrs fun Q=>h Q (H0 (e▸H))
def iH(s0:Int×Int×(List Int)):Option ((Int×Int×(List Int))⊕(Int×(List Int))):=
 cond (ZE (s0.2.1<(s0.2.2.length:Int)))
 ((aA s0.2.2 s0.2.1).bind λy1=>
 ZA (.inl ((aH (s0.1+1)),(aH (s0.2.1+1)),(s0.2.2.set (V0 s0.2.1) s0.1))))
 (ZA (.inr (s0.1,s0.2.2)))
instance :bj (iH):=⟨λs0=>(.ms 0::vi s0.1::(U 3 (vi s0.2.1::(U 13 [])))),λs0=>[ZA ⟨.of 3,1,s0.2.2.map aI⟩]⟩
def nT(a:List Int)(k:Int):Option (Int×(List Int)):=
 (aD (iH) NN (k,0,a)).bind (λo0=>
 ZA (o0.1,o0.2))
instance (a:List Int)(k:Int):CT prog (nT a k):=⟨74,[.ms 0,vi k],[ZA ⟨.of 3,1,a.map aI⟩],λr=>vi r.1,λr=>[ZA ⟨.of 3,1,r.2.map aI⟩],cw (nT.eq_1 ..) func74 ntmps74 results74⟩
def kR(a:List Int)(s0:Int×Int):Option ((Int×Int)⊕(Int⊕Int)):=
 cond (ZE (s0.2<(a.length:Int)))
 ((aA a s0.2).bind λy1=>
 cond (!decide (y1=s0.1))
 (ZA (.inr (.inr (-1))))
 (ZA (.inl ((aH (s0.1+1)),(aH (s0.2+1))))))
 (ZA (.inr (.inl s0.1)))
instance (a:List Int):bj (kR a):=⟨λs0=>(.sl (a.map aI)::vi s0.1::(U 3 (vi s0.2::(U 15 [])))),λs0=>[]⟩
def eG(a:List Int)(k:Int):Option Int:=
 (aD (kR a) NN (k,0)).bind (bm (λo0=>
 ZA o0) (λr=>ZA r))
instance (a:List Int)(k:Int):CT prog (eG a k):=⟨81,[.sl (a.map aI),vi k],[],λr=>vi r,λr=>[],cw (eG.eq_1 ..) func81 ntmps81 results81⟩
theorem j4{σ ο:Type}{body:σ->Option (σ⊕ο)}(S:Nat->σ){n:Nat}{o:ο}(h1:∀i,i<n->body (S i)=ZA (.inl (S (i+1))))(h2:body (S n)=ZA (.inr o)):∀N,n<N->aD body N (S 0)=ZA o:=by
 have key:∀d j,j+d=n->∀N,d<N->aD body N (S j)=ZA o:=by
  intro d
  induction d with
  |zero=>
   intro j hj N hN;obtain⟨N,rfl⟩:∃M,N=M+1:=⟨N-1,YG⟩;have:j=n:=YG;subst this;unfold aD;rw[h2];rfl
  |succ d ih=>
   intro j hj N hN;obtain⟨N,rfl⟩:∃M,N=M+1:=⟨N-1,YG⟩;unfold aD;rw[h1 j YG];exact ih (j+1) YG N YG
 intro N hN;exact key n 0 YG N hN
theorem tG{xs:List α}{v:α}(h:i<xs.length):aA (xs.set i v) (i:Int)=ZA v:=by
 rw[aQ,List.getElem?_set_self h]
theorem jM{xs:List α}(h:i<xs.length):aA xs (i:Int)=ZA xs[i]:=by
 rw[aQ];exact VF h
theorem uM{M a:List α}{v:α}(hM:M.length=i)(hi:i<a.length):(M++a.drop i).set i v=(M++[v])++a.drop (i+1):=by
 rw[List.drop_eq_getElem_cons hi,List.set_append_right _ _ YG];rw[show i-M.length=0 by omega,List.set_cons_zero,List.append_assoc]
 rfl
theorem jA(h:1<=k/\k<=1099511627776):bg k=ZA (bQ k):=by unfold bg;rw[if_pos h]
def zD(k:Int)(n:Nat):List Int:=(Wq n).map λi:Nat=>k+(i:Int)
theorem Dw{n:Nat}:(zD k n).length=n:=by simp[zD]
theorem Zfq{n:Nat}:zD k (n+1)=zD k n++[k+(n:Int)]:=by simp[zD,WV]
theorem Qf(a:List Int)(k:Int)(ha:a.length<=1048576)(h0:1<=k)(h1:k<=1000000000):nT a k=ZA (k+a.length,zD k a.length):=by
 unfold nT;have e0:(k,0,a)=(λi:Nat=>((k+(i:Int),(i:Int),zD k i++a.drop i):Int×Int×List Int)) 0:=by simp[zD]
 have hh:aD iH NN ((λi:Nat=>(k+(i:Int),(i:Int),zD k i++a.drop i)) 0)=ZA ((k+a.length,zD k a.length)):=by
  refine j4 (λi:Nat=>(k+(i:Int),(i:Int),zD k i++a.drop i)) (n:=a.length) ?_ ?_ NN YI
  ·intro i hi
   have hL:i<(zD k i++a.drop i).length:=by simp[Dw];omega
   have w1:aH (k+(i:Int)+1)=k+((i+1:Nat):Int):=by rw[aL YG];omega
   have w2:aH ((i:Int)+1)=((i+1:Nat):Int):=by rw[aL YG];omega
   have d1:ZE ((i:Int)<((zD k i++a.drop i).length:Int))=true:=Yp YG;simp only[iH,d1,YC,jM hL,VE,w1,w2,We,uM Dw hi,Zfq]
  ·have d1:ZE ((a.length:Int)<((zD k a.length).length:Int))=false:=Yz (by simp[Dw])
   simp only[iH,WS,Wy,d1,YD]
 rw[e0,hh];rfl
theorem uA(k:Int)(n:Nat)(hn:n<=1048576)(h0:1<=k)(h1:k<=1000000000):eG (zD k n) k=ZA (k+n):=by
 unfold eG;have e0:(k,0)=(λi:Nat=>((k+(i:Int),(i:Int)):Int×Int)) 0:=by simp
 have hh:aD (kR (zD k n)) NN ((λi:Nat=>(k+(i:Int),(i:Int))) 0)=ZA (W6 (k+n)):=by
  refine j4 (λi:Nat=>(k+(i:Int),(i:Int))) (n:=n) ?_ ?_ NN YI
  ·intro i hi
   have hL:i<(zD k n).length:=by rw[Dw];exact hi
   have w1:aH (k+(i:Int)+1)=k+((i+1:Nat):Int):=by rw[aL YG];omega
   have w2:aH ((i:Int)+1)=((i+1:Nat):Int):=by rw[aL YG];omega
   have d1:ZE ((i:Int)<((zD k n).length:Int))=true:=Yp YG;have g:(zD k n)[i]=k+(i:Int):=by simp[zD]
   simp only[kR,d1,YC,jM hL,VE,w1,w2,g,decide_true,VK,YD]
  ·have d1:ZE ((n:Int)<((zD k n).length:Int))=false:=Yz (by simp[Dw])
   simp only[kR,d1,YD]
 rw[e0,hh];rfl
def iI(s0:Int×Int×(List bM)):Option ((Int×Int×(List bM))⊕(Int×(List bM))):=
 cond (ZE (s0.2.1<(s0.2.2.length:Int)))
 ((bg s0.1).bind λy1=>
 (aA s0.2.2 s0.2.1).bind λy2=>
 (bg (aH (s0.1+1))).bind λy3=>
 (aA s0.2.2 s0.2.1).bind λy4=>
 (aA s0.2.2 s0.2.1).bind λy5=>
 (aA s0.2.2 s0.2.1).bind λy6=>
 (aA s0.2.2 s0.2.1).bind λy7=>
 (aA s0.2.2 s0.2.1).bind λy8=>
 ZA (.inl ((aH ((aH ((aH ((aH ((aH ((aH (s0.1+1))+1))+1))+1))+1))+1)),(aH (s0.2.1+1)),(s0.2.2.set (V0 s0.2.1) (⟨y1,y3,(aH ((aH (s0.1+1))+1)),(aH ((aH ((aH (s0.1+1))+1))+1)),(aH ((aH ((aH ((aH (s0.1+1))+1))+1))+1)),(aH ((aH ((aH ((aH ((aH (s0.1+1))+1))+1))+1))+1))⟩:bM)))))
 (ZA (.inr (s0.1,s0.2.2)))
instance :bj (iI):=⟨λs0=>(.ms 0::vi s0.1::(U 3 (vi s0.2.1::(U 51 [])))),λs0=>[ZA ⟨.of 174,6,s0.2.2.map br⟩]⟩
def nU(a:List bM)(k:Int):Option (Int×(List bM)):=
 (aD (iI) NN (k,0,a)).bind (λo0=>
 ZA (o0.1,o0.2))
instance (a:List bM)(k:Int):CT prog (nU a k):=⟨252,[.ms 0,vi k],[ZA ⟨.of 174,6,a.map br⟩],λr=>vi r.1,λr=>[ZA ⟨.of 174,6,r.2.map br⟩],cw (nU.eq_1 ..) func252 ntmps252 results252⟩
def kS(a:List bM)(s0:Int×Int):Option ((Int×Int)⊕(Int⊕Int)):=
 cond (ZE (s0.2<(a.length:Int)))
 ((aA a s0.2).bind λy1=>
 (bg s0.1).bind λy2=>
 cond (!decide (y1.ar=y2))
 (ZA (.inr (.inr (-1))))
 ((aA a s0.2).bind λy3=>
 (bg (aH (s0.1+1))).bind λy4=>
 cond (!decide (y3.aX=y4))
 (ZA (.inr (.inr (-1))))
 ((aA a s0.2).bind λy5=>
 cond (!decide (y5.start=(aH ((aH (s0.1+1))+1))))
 (ZA (.inr (.inr (-1))))
 ((aA a s0.2).bind λy6=>
 cond (!decide (y6.oS=(aH ((aH ((aH (s0.1+1))+1))+1))))
 (ZA (.inr (.inr (-1))))
 ((aA a s0.2).bind λy7=>
 cond (!decide (y7.AW=(aH ((aH ((aH ((aH (s0.1+1))+1))+1))+1))))
 (ZA (.inr (.inr (-1))))
 ((aA a s0.2).bind λy8=>
 cond (!decide (y8.jl=(aH ((aH ((aH ((aH ((aH (s0.1+1))+1))+1))+1))+1))))
 (ZA (.inr (.inr (-1))))
 (ZA (.inl ((aH ((aH ((aH ((aH ((aH ((aH (s0.1+1))+1))+1))+1))+1))+1)),(aH (s0.2+1)))))))))))
 (ZA (.inr (.inl s0.1)))
instance (a:List bM):bj (kS a):=⟨λs0=>(.sl (a.map br)::vi s0.1::(U 3 (vi s0.2::(U 63 [])))),λs0=>[]⟩
def oJ(a:List bM)(k:Int):Option Int:=
 (aD (kS a) NN (k,0)).bind (bm (λo0=>
 ZA o0) (λr=>ZA r))
instance (a:List bM)(k:Int):CT prog (oJ a k):=⟨253,[.sl (a.map br),vi k],[],λr=>vi r,λr=>[],cw (oJ.eq_1 ..) func253 ntmps253 results253⟩
def gW(s0:Int×Int×(List aw)):Option ((Int×Int×(List aw))⊕(Int×(List aw))):=
 cond (ZE (s0.2.1<(s0.2.2.length:Int)))
 ((aA s0.2.2 s0.2.1).bind λy1=>
 (aA s0.2.2 s0.2.1).bind λy2=>
 ZA (.inl ((aH ((aH (s0.1+1))+1)),(aH (s0.2.1+1)),(s0.2.2.set (V0 s0.2.1) (⟨s0.1,(aH (s0.1+1))⟩:aw)))))
 (ZA (.inr (s0.1,s0.2.2)))
instance :bj (gW):=⟨λs0=>(.ms 0::vi s0.1::(U 3 (vi s0.2.1::(U 21 [])))),λs0=>[ZA ⟨.of 46,2,s0.2.2.map aS⟩]⟩
def mI(a:List aw)(k:Int):Option (Int×(List aw)):=
 (aD (gW) NN (k,0,a)).bind (λo0=>
 ZA (o0.1,o0.2))
instance (a:List aw)(k:Int):CT prog (mI a k):=⟨162,[.ms 0,vi k],[ZA ⟨.of 46,2,a.map aS⟩],λr=>vi r.1,λr=>[ZA ⟨.of 46,2,r.2.map aS⟩],cw (mI.eq_1 ..) func162 ntmps162 results162⟩
def jS(a:List aw)(s0:Int×Int):Option ((Int×Int)⊕(Int⊕Int)):=
 cond (ZE (s0.2<(a.length:Int)))
 ((aA a s0.2).bind λy1=>
 cond (!decide (y1.bG=s0.1))
 (ZA (.inr (.inr (-1))))
 ((aA a s0.2).bind λy2=>
 cond (!decide (y2.day=(aH (s0.1+1))))
 (ZA (.inr (.inr (-1))))
 (ZA (.inl ((aH ((aH (s0.1+1))+1)),(aH (s0.2+1)))))))
 (ZA (.inr (.inl s0.1)))
instance (a:List aw):bj (jS a):=⟨λs0=>(.sl (a.map aS)::vi s0.1::(U 3 (vi s0.2::(U 25 [])))),λs0=>[]⟩
def iQ(a:List aw)(k:Int):Option Int:=
 (aD (jS a) NN (k,0)).bind (bm (λo0=>
 ZA o0) (λr=>ZA r))
instance (a:List aw)(k:Int):CT prog (iQ a k):=⟨167,[.sl (a.map aS),vi k],[],λr=>vi r,λr=>[],cw (iQ.eq_1 ..) func167 ntmps167 results167⟩
def fD(s0:Int×Int×(List aj)):Option ((Int×Int×(List aj))⊕(Int×(List aj))):=
 cond (ZE (s0.2.1<(s0.2.2.length:Int)))
 ((aA s0.2.2 s0.2.1).bind λy1=>
 (aA s0.2.2 s0.2.1).bind λy2=>
 (aA s0.2.2 s0.2.1).bind λy3=>
 (aA s0.2.2 s0.2.1).bind λy4=>
 ZA (.inl ((aH ((aH ((aH ((aH (s0.1+1))+1))+1))+1)),(aH (s0.2.1+1)),(s0.2.2.set (V0 s0.2.1) (⟨s0.1,(⟨(aH (s0.1+1)),(aH ((aH (s0.1+1))+1))⟩:aw),(aH ((aH ((aH (s0.1+1))+1))+1))⟩:aj)))))
 (ZA (.inr (s0.1,s0.2.2)))
instance :bj (fD):=⟨λs0=>(.ms 0::vi s0.1::(U 3 (vi s0.2.1::(U 37 [])))),λs0=>[ZA ⟨.of 177,4,s0.2.2.map aC⟩]⟩
def j6(a:List aj)(k:Int):Option (Int×(List aj)):=
 (aD (fD) NN (k,0,a)).bind (λo0=>
 ZA (o0.1,o0.2))
instance (a:List aj)(k:Int):CT prog (j6 a k):=⟨161,[.ms 0,vi k],[ZA ⟨.of 177,4,a.map aC⟩],λr=>vi r.1,λr=>[ZA ⟨.of 177,4,r.2.map aC⟩],cw (j6.eq_1 ..) func161 ntmps161 results161⟩
def gP(a:List aj)(s0:Int×Int):Option ((Int×Int)⊕(Int⊕Int)):=
 cond (ZE (s0.2<(a.length:Int)))
 ((aA a s0.2).bind λy1=>
 cond (!decide (y1.bo=s0.1))
 (ZA (.inr (.inr (-1))))
 ((aA a s0.2).bind λy2=>
 cond (!decide (y2.aV.bG=(aH (s0.1+1))))
 (ZA (.inr (.inr (-1))))
 ((aA a s0.2).bind λy3=>
 cond (!decide (y3.aV.day=(aH ((aH (s0.1+1))+1))))
 (ZA (.inr (.inr (-1))))
 ((aA a s0.2).bind λy4=>
 cond (!decide (y4.ab=(aH ((aH ((aH (s0.1+1))+1))+1))))
 (ZA (.inr (.inr (-1))))
 (ZA (.inl ((aH ((aH ((aH ((aH (s0.1+1))+1))+1))+1)),(aH (s0.2+1)))))))))
 (ZA (.inr (.inl s0.1)))
instance (a:List aj):bj (gP a):=⟨λs0=>(.sl (a.map aC)::vi s0.1::(U 3 (vi s0.2::(U 45 [])))),λs0=>[]⟩
def ik(a:List aj)(k:Int):Option Int:=
 (aD (gP a) NN (k,0)).bind (bm (λo0=>
 ZA o0) (λr=>ZA r))
instance (a:List aj)(k:Int):CT prog (ik a k):=⟨166,[.sl (a.map aC),vi k],[],λr=>vi r,λr=>[],cw (ik.eq_1 ..) func166 ntmps166 results166⟩
def gV(s0:Int×Int×(List bc)):Option ((Int×Int×(List bc))⊕(Int×(List bc))):=
 cond (ZE (s0.2.1<(s0.2.2.length:Int)))
 ((aA s0.2.2 s0.2.1).bind λy1=>
 (aA s0.2.2 s0.2.1).bind λy2=>
 (aA s0.2.2 s0.2.1).bind λy3=>
 (bg (aH ((aH ((aH (s0.1+1))+1))+1))).bind λy4=>
 (aA s0.2.2 s0.2.1).bind λy5=>
 (aA s0.2.2 s0.2.1).bind λy6=>
 (aA s0.2.2 s0.2.1).bind λy7=>
 ZA (.inl ((aH ((aH ((aH ((aH ((aH ((aH (s0.1+1))+1))+1))+1))+1))+1)),(aH (s0.2.1+1)),(s0.2.2.set (V0 s0.2.1) (⟨s0.1,(aH (s0.1+1)),(aH ((aH (s0.1+1))+1)),y4,(⟨(aH ((aH ((aH ((aH (s0.1+1))+1))+1))+1)),(aH ((aH ((aH ((aH ((aH (s0.1+1))+1))+1))+1))+1))⟩:aw)⟩:bc)))))
 (ZA (.inr (s0.1,s0.2.2)))
instance :bj (gV):=⟨λs0=>(.ms 0::vi s0.1::(U 3 (vi s0.2.1::(U 52 [])))),λs0=>[ZA ⟨.of 181,6,s0.2.2.map bt⟩]⟩
def mH(a:List bc)(k:Int):Option (Int×(List bc)):=
 (aD (gV) NN (k,0,a)).bind (λo0=>
 ZA (o0.1,o0.2))
instance (a:List bc)(k:Int):CT prog (mH a k):=⟨163,[.ms 0,vi k],[ZA ⟨.of 181,6,a.map bt⟩],λr=>vi r.1,λr=>[ZA ⟨.of 181,6,r.2.map bt⟩],cw (mH.eq_1 ..) func163 ntmps163 results163⟩
def jR(a:List bc)(s0:Int×Int):Option ((Int×Int)⊕(Int⊕Int)):=
 cond (ZE (s0.2<(a.length:Int)))
 ((aA a s0.2).bind λy1=>
 cond (!decide (y1.bo=s0.1))
 (ZA (.inr (.inr (-1))))
 ((aA a s0.2).bind λy2=>
 cond (!decide (y2.aO=(aH (s0.1+1))))
 (ZA (.inr (.inr (-1))))
 ((aA a s0.2).bind λy3=>
 cond (!decide (y3.kind=(aH ((aH (s0.1+1))+1))))
 (ZA (.inr (.inr (-1))))
 ((aA a s0.2).bind λy4=>
 (bg (aH ((aH ((aH (s0.1+1))+1))+1))).bind λy5=>
 cond (!decide (y4.place=y5))
 (ZA (.inr (.inr (-1))))
 ((aA a s0.2).bind λy6=>
 cond (!decide (y6.aV.bG=(aH ((aH ((aH ((aH (s0.1+1))+1))+1))+1))))
 (ZA (.inr (.inr (-1))))
 ((aA a s0.2).bind λy7=>
 cond (!decide (y7.aV.day=(aH ((aH ((aH ((aH ((aH (s0.1+1))+1))+1))+1))+1))))
 (ZA (.inr (.inr (-1))))
 (ZA (.inl ((aH ((aH ((aH ((aH ((aH ((aH (s0.1+1))+1))+1))+1))+1))+1)),(aH (s0.2+1)))))))))))
 (ZA (.inr (.inl s0.1)))
instance (a:List bc):bj (jR a):=⟨λs0=>(.sl (a.map bt)::vi s0.1::(U 3 (vi s0.2::(U 64 [])))),λs0=>[]⟩
def kr(a:List bc)(k:Int):Option Int:=
 (aD (jR a) NN (k,0)).bind (bm (λo0=>
 ZA o0) (λr=>ZA r))
instance (a:List bc)(k:Int):CT prog (kr a k):=⟨168,[.sl (a.map bt),vi k],[],λr=>vi r,λr=>[],cw (kr.eq_1 ..) func168 ntmps168 results168⟩
def mLg(k:Int):bM:=⟨bQ (k),bQ (k+1),k+1+1,k+1+1+1,k+1+1+1+1,k+1+1+1+1+1⟩
def tS(k:Int)(n:Nat):List bM:=(Wq n).map λi:Nat=>mLg (k+6*(i:Int))
theorem zE{n:Nat}:(tS k n).length=n:=by simp[tS]
theorem Zcb{n:Nat}:tS k (n+1)=tS k n++[mLg (k+6*(n:Int))]:=by simp[tS,WV]
theorem Qg(a:List bM)(k:Int)(ha:a.length<=1048576)(h0:1<=k)(h1:k<=1000000000):nU a k=ZA (k+6*a.length,tS k a.length):=by
 unfold nU;have e0:(k,0,a)=(λi:Nat=>((k+6*(i:Int),(i:Int),tS k i++a.drop i):Int×Int×List bM)) 0:=by simp[tS]
 have hh:aD iI NN ((λi:Nat=>(k+6*(i:Int),(i:Int),tS k i++a.drop i)) 0)=ZA ((k+6*a.length,tS k a.length)):=by
  refine j4 (λi:Nat=>(k+6*(i:Int),(i:Int),tS k i++a.drop i)) (n:=a.length) ?_ ?_ NN YI
  ·intro i hi
   have hL:i<(tS k i++a.drop i).length:=by simp[zE];omega
   generalize hq:k+6*(i:Int)=q;have IW:1<=q:=YG;have Ey:q<=1010000000:=YG;have vl:k+6*((i+1:Nat):Int)=q+1+1+1+1+1+1:=YG;have w1:aH (q+1)=q+1:=aL YG;have w2:aH (q+1+1)=q+1+1:=aL YG;have w3:aH (q+1+1+1)=q+1+1+1:=aL YG;have w4:aH (q+1+1+1+1)=q+1+1+1+1:=aL YG;have w5:aH (q+1+1+1+1+1)=q+1+1+1+1+1:=aL YG;have w6:aH (q+1+1+1+1+1+1)=q+1+1+1+1+1+1:=aL YG;have t0:bg (q)=ZA (bQ (q)):=jA YG;have t1:bg (q+1)=ZA (bQ (q+1)):=jA YG;have wi:aH ((i:Int)+1)=((i+1:Nat):Int):=by rw[aL YG];omega
   have d1:ZE ((i:Int)<((tS k i++a.drop i).length:Int))=true:=Yp YG;have hs:=uM (v:=mLg q) zE (show i<a.length from hi) (M:=tS k i);rw[Zcb,hq,vl];generalize tS k i++a.drop i=L at *
   have gs:∀(xs:List bM) (v:bM),i<xs.length->aA (xs.set i v) (i:Int)=ZA v:=λxs v h=>tG h
   simp only[iI,d1,YC,t0,t1,jM hL,VE,w1,w2,w3,w4,w5,w6,wi,We,zp,gs,Ws,hL,Xn,<-hs];rfl
  ·have d1:ZE ((a.length:Int)<((tS k a.length).length:Int))=false:=Yz (by simp[zE])
   simp only[iI,WS,Wy,d1,YD]
 simp_all
theorem PE(k:Int)(n:Nat)(hn:n<=1048576)(h0:1<=k)(h1:k<=1000000000):oJ (tS k n) k=ZA (k+6*n):=by
 unfold oJ;have e0:(k,0)=(λi:Nat=>((k+6*(i:Int),(i:Int)):Int×Int)) 0:=by simp
 have hh:aD (kS (tS k n)) NN ((λi:Nat=>(k+6*(i:Int),(i:Int))) 0)=ZA (W6 (k+6*n)):=by
  refine j4 (λi:Nat=>(k+6*(i:Int),(i:Int))) (n:=n) ?_ ?_ NN YI
  ·intro i hi
   have hL:i<(tS k n).length:=by rw[zE];omega
   have g:(tS k n)[i]=mLg (k+6*(i:Int)):=by simp[tS]
   have hg:=jM hL;rw[g]at hg
   have d1:ZE ((i:Int)<((tS k n).length:Int))=true:=Yp YG;have vl:k+6*((i+1:Nat):Int)=k+6*(i:Int)+1+1+1+1+1+1:=YG;rw[vl];generalize tS k n=L at *
   have IW:1<=k+6*(i:Int):=YG;have Ey:k+6*(i:Int)<=1010000000:=YG;generalize k+6*(i:Int)=q at *
   have w1:aH (q+1)=q+1:=aL YG;have w2:aH (q+1+1)=q+1+1:=aL YG;have w3:aH (q+1+1+1)=q+1+1+1:=aL YG;have w4:aH (q+1+1+1+1)=q+1+1+1+1:=aL YG;have w5:aH (q+1+1+1+1+1)=q+1+1+1+1+1:=aL YG;have w6:aH (q+1+1+1+1+1+1)=q+1+1+1+1+1+1:=aL YG;have t0:bg (q)=ZA (bQ (q)):=jA YG;have t1:bg (q+1)=ZA (bQ (q+1)):=jA YG;have wi:aH ((i:Int)+1)=((i+1:Nat):Int):=by rw[aL YG];omega
   simp only[kS,d1,YC,t0,t1,hg,VE,w1,w2,w3,w4,w5,w6,wi,mLg,decide_true,VK,YD]
  ·have d1:ZE ((n:Int)<((tS k n).length:Int))=false:=Yz (by simp[zE])
   simp only[kS,d1,YD]
 simp_all
def mTr(k:Int):aw:=⟨k,k+1⟩
def s9(k:Int)(n:Nat):List aw:=(Wq n).map λi:Nat=>mTr (k+2*(i:Int))
theorem zH{n:Nat}:(s9 k n).length=n:=by simp[s9]
theorem Zcd{n:Nat}:s9 k (n+1)=s9 k n++[mTr (k+2*(n:Int))]:=by simp[s9,WV]
theorem Dv(a:List aw)(k:Int)(ha:a.length<=1048576)(h0:1<=k)(h1:k<=1000000000):mI a k=ZA (k+2*a.length,s9 k a.length):=by
 unfold mI;have e0:(k,0,a)=(λi:Nat=>((k+2*(i:Int),(i:Int),s9 k i++a.drop i):Int×Int×List aw)) 0:=by simp[s9]
 have hh:aD gW NN ((λi:Nat=>(k+2*(i:Int),(i:Int),s9 k i++a.drop i)) 0)=ZA ((k+2*a.length,s9 k a.length)):=by
  refine j4 (λi:Nat=>(k+2*(i:Int),(i:Int),s9 k i++a.drop i)) (n:=a.length) ?_ ?_ NN YI
  ·intro i hi
   have hL:i<(s9 k i++a.drop i).length:=by simp[zH];omega
   generalize hq:k+2*(i:Int)=q;have IW:1<=q:=YG;have Ey:q<=1010000000:=YG;have vl:k+2*((i+1:Nat):Int)=q+1+1:=YG;have w1:aH (q+1)=q+1:=aL YG;have w2:aH (q+1+1)=q+1+1:=aL YG;have wi:aH ((i:Int)+1)=((i+1:Nat):Int):=by rw[aL YG];omega
   have d1:ZE ((i:Int)<((s9 k i++a.drop i).length:Int))=true:=Yp YG;have hs:=uM (v:=mTr q) zH (show i<a.length from hi) (M:=s9 k i);rw[Zcd,hq,vl];generalize s9 k i++a.drop i=L at *
   have gs:∀(xs:List aw) (v:aw),i<xs.length->aA (xs.set i v) (i:Int)=ZA v:=λxs v h=>tG h
   simp only[gW,d1,YC,jM hL,VE,w1,w2,wi,We,zp,gs,Ws,hL,Xn,<-hs];rfl
  ·have d1:ZE ((a.length:Int)<((s9 k a.length).length:Int))=false:=Yz (by simp[zH])
   simp only[gW,WS,Wy,d1,YD]
 simp_all
theorem C7(k:Int)(n:Nat)(hn:n<=1048576)(h0:1<=k)(h1:k<=1000000000):iQ (s9 k n) k=ZA (k+2*n):=by
 unfold iQ;have e0:(k,0)=(λi:Nat=>((k+2*(i:Int),(i:Int)):Int×Int)) 0:=by simp
 have hh:aD (jS (s9 k n)) NN ((λi:Nat=>(k+2*(i:Int),(i:Int))) 0)=ZA (W6 (k+2*n)):=by
  refine j4 (λi:Nat=>(k+2*(i:Int),(i:Int))) (n:=n) ?_ ?_ NN YI
  ·intro i hi
   have hL:i<(s9 k n).length:=by rw[zH];omega
   have g:(s9 k n)[i]=mTr (k+2*(i:Int)):=by simp[s9]
   have hg:=jM hL;rw[g]at hg
   have d1:ZE ((i:Int)<((s9 k n).length:Int))=true:=Yp YG;have vl:k+2*((i+1:Nat):Int)=k+2*(i:Int)+1+1:=YG;rw[vl];generalize s9 k n=L at *
   have IW:1<=k+2*(i:Int):=YG;have Ey:k+2*(i:Int)<=1010000000:=YG;generalize k+2*(i:Int)=q at *
   have w1:aH (q+1)=q+1:=aL YG;have w2:aH (q+1+1)=q+1+1:=aL YG;have wi:aH ((i:Int)+1)=((i+1:Nat):Int):=by rw[aL YG];omega
   simp only[jS,d1,YC,hg,VE,w1,w2,wi,mTr,decide_true,VK,YD]
  ·have d1:ZE ((n:Int)<((s9 k n).length:Int))=false:=Yz (by simp[zH])
   simp only[jS,d1,YD]
 simp_all
def mBk(k:Int):aj:=⟨k,⟨k+1,k+1+1⟩,k+1+1+1⟩
def uI(k:Int)(n:Nat):List aj:=(Wq n).map λi:Nat=>mBk (k+4*(i:Int))
theorem zC{n:Nat}:(uI k n).length=n:=by simp[uI]
theorem Zca{n:Nat}:uI k (n+1)=uI k n++[mBk (k+4*(n:Int))]:=by simp[uI,WV]
theorem Gs(a:List aj)(k:Int)(ha:a.length<=1048576)(h0:1<=k)(h1:k<=1000000000):j6 a k=ZA (k+4*a.length,uI k a.length):=by
 unfold j6;have e0:(k,0,a)=(λi:Nat=>((k+4*(i:Int),(i:Int),uI k i++a.drop i):Int×Int×List aj)) 0:=by simp[uI]
 have hh:aD fD NN ((λi:Nat=>(k+4*(i:Int),(i:Int),uI k i++a.drop i)) 0)=ZA ((k+4*a.length,uI k a.length)):=by
  refine j4 (λi:Nat=>(k+4*(i:Int),(i:Int),uI k i++a.drop i)) (n:=a.length) ?_ ?_ NN YI
  ·intro i hi
   have hL:i<(uI k i++a.drop i).length:=by simp[zC];omega
   generalize hq:k+4*(i:Int)=q;have IW:1<=q:=YG;have Ey:q<=1010000000:=YG;have vl:k+4*((i+1:Nat):Int)=q+1+1+1+1:=YG;have w1:aH (q+1)=q+1:=aL YG;have w2:aH (q+1+1)=q+1+1:=aL YG;have w3:aH (q+1+1+1)=q+1+1+1:=aL YG;have w4:aH (q+1+1+1+1)=q+1+1+1+1:=aL YG;have wi:aH ((i:Int)+1)=((i+1:Nat):Int):=by rw[aL YG];omega
   have d1:ZE ((i:Int)<((uI k i++a.drop i).length:Int))=true:=Yp YG;have hs:=uM (v:=mBk q) zC (show i<a.length from hi) (M:=uI k i);rw[Zca,hq,vl];generalize uI k i++a.drop i=L at *
   have gs:∀(xs:List aj) (v:aj),i<xs.length->aA (xs.set i v) (i:Int)=ZA v:=λxs v h=>tG h
   simp only[fD,d1,YC,jM hL,VE,w1,w2,w3,w4,wi,We,zp,gs,Ws,hL,Xn,<-hs];rfl
  ·have d1:ZE ((a.length:Int)<((uI k a.length).length:Int))=false:=Yz (by simp[zC])
   simp only[fD,WS,Wy,d1,YD]
 simp_all
theorem Gg(k:Int)(n:Nat)(hn:n<=1048576)(h0:1<=k)(h1:k<=1000000000):ik (uI k n) k=ZA (k+4*n):=by
 unfold ik;have e0:(k,0)=(λi:Nat=>((k+4*(i:Int),(i:Int)):Int×Int)) 0:=by simp
 have hh:aD (gP (uI k n)) NN ((λi:Nat=>(k+4*(i:Int),(i:Int))) 0)=ZA (W6 (k+4*n)):=by
  refine j4 (λi:Nat=>(k+4*(i:Int),(i:Int))) (n:=n) ?_ ?_ NN YI
  ·intro i hi
   have hL:i<(uI k n).length:=by rw[zC];omega
   have g:(uI k n)[i]=mBk (k+4*(i:Int)):=by simp[uI]
   have hg:=jM hL;rw[g]at hg
   have d1:ZE ((i:Int)<((uI k n).length:Int))=true:=Yp YG;have vl:k+4*((i+1:Nat):Int)=k+4*(i:Int)+1+1+1+1:=YG;rw[vl];generalize uI k n=L at *
   have IW:1<=k+4*(i:Int):=YG;have Ey:k+4*(i:Int)<=1010000000:=YG;generalize k+4*(i:Int)=q at *
   have w1:aH (q+1)=q+1:=aL YG;have w2:aH (q+1+1)=q+1+1:=aL YG;have w3:aH (q+1+1+1)=q+1+1+1:=aL YG;have w4:aH (q+1+1+1+1)=q+1+1+1+1:=aL YG;have wi:aH ((i:Int)+1)=((i+1:Nat):Int):=by rw[aL YG];omega
   simp only[gP,d1,YC,hg,VE,w1,w2,w3,w4,wi,mBk,decide_true,VK,YD]
  ·have d1:ZE ((n:Int)<((uI k n).length:Int))=false:=Yz (by simp[zC])
   simp only[gP,d1,YD]
 simp_all
def mSc(k:Int):bc:=⟨k,k+1,k+1+1,bQ (k+1+1+1),⟨k+1+1+1+1,k+1+1+1+1+1⟩⟩
def uK(k:Int)(n:Nat):List bc:=(Wq n).map λi:Nat=>mSc (k+6*(i:Int))
theorem zG{n:Nat}:(uK k n).length=n:=by simp[uK]
theorem Zcc{n:Nat}:uK k (n+1)=uK k n++[mSc (k+6*(n:Int))]:=by simp[uK,WV]
theorem Nc(a:List bc)(k:Int)(ha:a.length<=1048576)(h0:1<=k)(h1:k<=1000000000):mH a k=ZA (k+6*a.length,uK k a.length):=by
 unfold mH;have e0:(k,0,a)=(λi:Nat=>((k+6*(i:Int),(i:Int),uK k i++a.drop i):Int×Int×List bc)) 0:=by simp[uK]
 have hh:aD gV NN ((λi:Nat=>(k+6*(i:Int),(i:Int),uK k i++a.drop i)) 0)=ZA ((k+6*a.length,uK k a.length)):=by
  refine j4 (λi:Nat=>(k+6*(i:Int),(i:Int),uK k i++a.drop i)) (n:=a.length) ?_ ?_ NN YI
  ·intro i hi
   have hL:i<(uK k i++a.drop i).length:=by simp[zG];omega
   generalize hq:k+6*(i:Int)=q;have IW:1<=q:=YG;have Ey:q<=1010000000:=YG;have vl:k+6*((i+1:Nat):Int)=q+1+1+1+1+1+1:=YG;have w1:aH (q+1)=q+1:=aL YG;have w2:aH (q+1+1)=q+1+1:=aL YG;have w3:aH (q+1+1+1)=q+1+1+1:=aL YG;have w4:aH (q+1+1+1+1)=q+1+1+1+1:=aL YG;have w5:aH (q+1+1+1+1+1)=q+1+1+1+1+1:=aL YG;have w6:aH (q+1+1+1+1+1+1)=q+1+1+1+1+1+1:=aL YG;have t3:bg (q+1+1+1)=ZA (bQ (q+1+1+1)):=jA YG;have wi:aH ((i:Int)+1)=((i+1:Nat):Int):=by rw[aL YG];omega
   have d1:ZE ((i:Int)<((uK k i++a.drop i).length:Int))=true:=Yp YG;have hs:=uM (v:=mSc q) zG (show i<a.length from hi) (M:=uK k i);rw[Zcc,hq,vl];generalize uK k i++a.drop i=L at *
   have gs:∀(xs:List bc) (v:bc),i<xs.length->aA (xs.set i v) (i:Int)=ZA v:=λxs v h=>tG h
   simp only[gV,d1,YC,t3,jM hL,VE,w1,w2,w3,w4,w5,w6,wi,We,zp,gs,Ws,hL,Xn,<-hs];rfl
  ·have d1:ZE ((a.length:Int)<((uK k a.length).length:Int))=false:=Yz (by simp[zG])
   simp only[gV,WS,Wy,d1,YD]
 simp_all
theorem MG(k:Int)(n:Nat)(hn:n<=1048576)(h0:1<=k)(h1:k<=1000000000):kr (uK k n) k=ZA (k+6*n):=by
 unfold kr;have e0:(k,0)=(λi:Nat=>((k+6*(i:Int),(i:Int)):Int×Int)) 0:=by simp
 have hh:aD (jR (uK k n)) NN ((λi:Nat=>(k+6*(i:Int),(i:Int))) 0)=ZA (W6 (k+6*n)):=by
  refine j4 (λi:Nat=>(k+6*(i:Int),(i:Int))) (n:=n) ?_ ?_ NN YI
  ·intro i hi
   have hL:i<(uK k n).length:=by rw[zG];omega
   have g:(uK k n)[i]=mSc (k+6*(i:Int)):=by simp[uK]
   have hg:=jM hL;rw[g]at hg
   have d1:ZE ((i:Int)<((uK k n).length:Int))=true:=Yp YG;have vl:k+6*((i+1:Nat):Int)=k+6*(i:Int)+1+1+1+1+1+1:=YG;rw[vl];generalize uK k n=L at *
   have IW:1<=k+6*(i:Int):=YG;have Ey:k+6*(i:Int)<=1010000000:=YG;generalize k+6*(i:Int)=q at *
   have w1:aH (q+1)=q+1:=aL YG;have w2:aH (q+1+1)=q+1+1:=aL YG;have w3:aH (q+1+1+1)=q+1+1+1:=aL YG;have w4:aH (q+1+1+1+1)=q+1+1+1+1:=aL YG;have w5:aH (q+1+1+1+1+1)=q+1+1+1+1+1:=aL YG;have w6:aH (q+1+1+1+1+1+1)=q+1+1+1+1+1+1:=aL YG;have t3:bg (q+1+1+1)=ZA (bQ (q+1+1+1)):=jA YG;have wi:aH ((i:Int)+1)=((i+1:Nat):Int):=by rw[aL YG];omega
   simp only[jR,d1,YC,t3,hg,VE,w1,w2,w3,w4,w5,w6,wi,mSc,decide_true,VK,YD]
  ·have d1:ZE ((n:Int)<((uK k n).length:Int))=false:=Yz (by simp[zG])
   simp only[jR,d1,YD]
 simp_all
def js(a:List ay)(s0:Int×Int):Option ((Int×Int)⊕(Int⊕Int)):=
 cond (ZE (s0.2<(a.length:Int)))
 ((aA a s0.2).bind λy1=>
 (bg s0.1).bind λy2=>
 cond (!decide (y1.ar=y2))
 (ZA (.inr (.inr (-1))))
 ((aA a s0.2).bind λy3=>
 (bg (aH (s0.1+1))).bind λy4=>
 cond (!decide (y3.aX=y4))
 (ZA (.inr (.inr (-1))))
 ((aA a s0.2).bind λy5=>
 cond (!decide (y5.ax=(aH ((aH (s0.1+1))+1))))
 (ZA (.inr (.inr (-1))))
 ((aA a s0.2).bind λy6=>
 cond (!decide (y6.ab=(aH ((aH ((aH (s0.1+1))+1))+1))))
 (ZA (.inr (.inr (-1))))
 ((aA a s0.2).bind λy7=>
 cond (!decide (y7.aO=(aH ((aH ((aH ((aH (s0.1+1))+1))+1))+1))))
 (ZA (.inr (.inr (-1))))
 ((aA a s0.2).bind λy8=>
 cond (!decide (y8.ec=(aH ((aH ((aH ((aH ((aH (s0.1+1))+1))+1))+1))+1))))
 (ZA (.inr (.inr (-1))))
 ((aA a s0.2).bind λy9=>
 (iQ y9.aK (aH ((aH ((aH ((aH ((aH ((aH (s0.1+1))+1))+1))+1))+1))+1))).bind λeE=>
 cond (ZE (eE<0))
 (ZA (.inr (.inr (-1))))
 ((aA a s0.2).bind λoq=>
 cond (!decide (oq.aN=eE))
 (ZA (.inr (.inr (-1))))
 ((aA a s0.2).bind λsj=>
 cond (!decide (sj.state=(aH (eE+1))))
 (ZA (.inr (.inr (-1))))
 ((aA a s0.2).bind λre=>
 (bg (aH ((aH (eE+1))+1))).bind λpx=>
 cond (!decide (re.place=px))
 (ZA (.inr (.inr (-1))))
 ((aA a s0.2).bind λtl=>
 cond (!decide (tl.bK=(aH ((aH ((aH (eE+1))+1))+1))))
 (ZA (.inr (.inr (-1))))
 (ZA (.inl ((aH ((aH ((aH ((aH (eE+1))+1))+1))+1)),(aH (s0.2+1))))))))))))))))
 (ZA (.inr (.inl s0.1)))
instance (a:List ay):bj (js a):=⟨λs0=>(.sl (a.map aY)::vi s0.1::(U 3 (vi s0.2::(U 109 [])))),λs0=>[]⟩
def jD(a:List ay)(k:Int):Option Int:=
 (aD (js a) NN (k,0)).bind (bm (λo0=>
 ZA o0) (λr=>ZA r))
instance (a:List ay)(k:Int):CT prog (jD a k):=⟨165,[.sl (a.map aY),vi k],[],λr=>vi r,λr=>[],cw (jD.eq_1 ..) func165 ntmps165 results165⟩
def kT(a:ak)(k:Int):Option Int:=
 (oJ a.aB k).bind λy1=>
 cond (ZE (y1<0))
 (ZA (-1))
 ((eG a.off y1).bind λy2=>
 cond (ZE (y2<0))
 (ZA (-1))
 (ZA y2))
instance (a:ak)(k:Int):CT prog (kT a k):=⟨164,[.ag (bE a),vi k],[],λr=>vi r,λr=>[],cw (kT.eq_1 ..) func164 ntmps164 results164⟩
def kt(a:az)(k:Int):Option Int:=
 (kT a.aa k).bind λy1=>
 cond (ZE (y1<0))
 (ZA (-1))
 ((jD a.ae y1).bind λy2=>
 cond (ZE (y2<0))
 (ZA (-1))
 ((ik a.aq y2).bind λy3=>
 cond (ZE (y3<0))
 (ZA (-1))
 ((iQ a.ah y3).bind λy4=>
 cond (ZE (y4<0))
 (ZA (-1))
 ((kr a.aJ y4).bind λy5=>
 cond (ZE (y5<0))
 (ZA (-1))
 ((eG a.skip y5).bind λy6=>
 cond (ZE (y6<0))
 (ZA (-1))
 (ZA y6))))))
instance (a:az)(k:Int):CT prog (kt a k):=⟨78,[.ag (fa a),vi k],[],λr=>vi r,λr=>[],cw (kt.eq_1 ..) func78 ntmps78 results78⟩
def mOr(k:Int)(n:Nat):ay:=⟨bQ k,bQ (k+1),k+2,k+3,k+4,k+5,s9 (k+6) n,k+6+2*n,k+7+2*n,bQ (k+8+2*n),k+9+2*n⟩
def vn(k:Int):List ay->Int
 | []=>k
 |o::os=>vn (k+10+2*(o.aK.length:Int)) os
def mkOr(k:Int):List ay->List ay
 | []=>[]
 |o::os=>mOr k o.aK.length::mkOr (k+10+2*(o.aK.length:Int)) os
theorem Nh(k:Int)(os:List ay):k<=vn k os:=by
 induction os generalizing k with
 |nil=>exact Wp _
 |cons o os ih=>have:=ih (k+10+2*(o.aK.length:Int));unfold vn;omega
theorem Ql(k:Int)(os:List ay)(o:ay):vn k (os++[o])=vn k os+10+2*(o.aK.length:Int):=by
 induction os generalizing k with
 |nil=>rfl
 |cons x os ih=>simp only[W7,vn];exact ih _
theorem Zic(k:Int)(as_ bs:List ay):vn k (as_++bs)=vn (vn k as_) bs:=by
 induction as_ generalizing k with
 |nil=>rfl
 |cons x os ih=>simp only[W7,vn];exact ih _
theorem Qm(k:Int)(os:List ay)(i:Nat):vn k (os.take i)<=vn k os:=by
 have:=Zic k (os.take i) (os.drop i);rw[Xs]at this
 rw[this];exact Nh _ _
theorem vW(k:Int)(os:List ay):(mkOr k os).length=os.length:=by
 induction os generalizing k with
 |nil=>rfl
 |cons o os ih=>simp only[mkOr,VL,ih]
theorem Jd(k:Int)(os:List ay)(i:Nat):(mkOr k os)[i]?=(os[i]?).map λo=>mOr (vn k (os.take i)) o.aK.length:=by
 induction os generalizing k i with
 |nil=>simp[mkOr]
 |cons o os ih=>
  cases i with
  |zero=>simp[mkOr,vn]
  |succ i=>simp only[mkOr,XC,ih,XS,vn]
theorem Kf(os:List ay)(k:Int)(hn:os.length<=1048576)(hw:∀o∈os,o.aK.length<=1048576)(h0:1<=k)(h1:vn k os<=1000000000):jD (mkOr k os) k=ZA (vn k os):=by
 unfold jD;have e0:(k,0)=(λi:Nat=>((vn k (os.take i),(i:Int)):Int×Int)) 0:=by simp[vn]
 have hh:aD (js (mkOr k os)) NN ((λi:Nat=>(vn k (os.take i),(i:Int))) 0)=ZA (W6 (vn k os)):=by
  refine j4 (λi:Nat=>(vn k (os.take i),(i:Int))) (n:=os.length) ?_ ?_ NN YI
  ·intro i hi
   have hx:os[i]?=ZA os[i]:=VF hi;have hm:os[i]∈os:=Wd hi;have PO:=hw _ hm;have vl:vn k (os.take (i+1))=vn k (os.take i)+10+2*(os[i].aK.length:Int):=by rw[WY,hx];exact Ql _ _ _
   have IW:1<=vn k (os.take i):=WM h0 (Nh _ _);have Ey:vn k (os.take (i+1))<=1000000000:=WM (Qm _ _ _) h1;have hg:aA (mkOr k os) (i:Int)=ZA (mOr (vn k (os.take i)) os[i].aK.length):=by rw[aQ,Jd,hx];rfl
   have d1:ZE ((i:Int)<((mkOr k os).length:Int))=true:=Yp (by rw[vW];omega)
   rw[vl]at Ey⊢
   generalize vn k (os.take i)=q at *
   generalize os[i].aK.length=n at *
   generalize mkOr k os=L at *
   have w1:aH (q+1)=q+1:=aL YG;have w2:aH (q+1+1)=q+2:=by rw[aL YG];omega
   have w3:aH (q+2+1)=q+3:=by rw[aL YG];omega
   have w4:aH (q+3+1)=q+4:=by rw[aL YG];omega
   have w5:aH (q+4+1)=q+5:=by rw[aL YG];omega
   have w6:aH (q+5+1)=q+6:=by rw[aL YG];omega
   have hT:=C7 (q+6) n PO YG YG;have w7:aH (q+6+2*(n:Int)+1)=q+7+2*n:=by rw[aL YG];omega
   have w8:aH (q+7+2*(n:Int)+1)=q+8+2*n:=by rw[aL YG];omega
   have w9:aH (q+8+2*(n:Int)+1)=q+9+2*n:=by rw[aL YG];omega
   have w10:aH (q+9+2*(n:Int)+1)=q+10+2*n:=by rw[aL YG];omega
   have wi:aH ((i:Int)+1)=((i+1:Nat):Int):=by rw[aL YG];omega
   have t0:bg q=ZA (bQ q):=jA YG;have t1:bg (q+1)=ZA (bQ (q+1)):=jA YG;have t2:bg (q+8+2*(n:Int))=ZA (bQ (q+8+2*(n:Int))):=jA YG;have dn:ZE (q+6+2*(n:Int)<0)=false:=Yz YG;simp only[js,d1,YC,hg,VE,mOr,w1,w2,w3,w4,w5,w6,t0,t1,hT,dn,w7,w8,w9,w10,t2,wi,decide_true,VK,YD]
  ·have d1:ZE ((os.length:Int)<((mkOr k os).length:Int))=false:=Yz (by rw[vW];omega)
   simp only[js,d1,YD,WA]
 rw[e0,hh];rfl
def Li(g:az)(k:Int):Int:=k+6*g.aa.aB.length+g.aa.off.length
def Tk(g:az)(k:Int):Int:=vn (Li g k) g.ae
def k3W(g:az)(k:Int):Int:=Tk g k+4*g.aq.length
def k4W(g:az)(k:Int):Int:=k3W g k+2*g.ah.length
def k5W(g:az)(k:Int):Int:=k4W g k+6*g.aJ.length
def k6W(g:az)(k:Int):Int:=k5W g k+g.skip.length
def Sh(g:az)(k:Int):az:=⟨⟨tS k g.aa.aB.length,zD (k+6*g.aa.aB.length) g.aa.off.length,g.aa.change⟩,mkOr (Li g k) g.ae,uI (Tk g k) g.aq.length,s9 (k3W g k) g.ah.length,g.now,uK (k4W g k) g.aJ.length,zD (k5W g k) g.skip.length,g.aT⟩
structure KF(g:az)(k:Int):Prop where
 aB:g.aa.aB.length<=1048576
 off:g.aa.off.length<=1048576
 ae:g.ae.length<=1048576
 aK:∀o∈g.ae,o.aK.length<=1048576
 aq:g.aq.length<=1048576
 ah:g.ah.length<=1048576
 aJ:g.aJ.length<=1048576
 skip:g.skip.length<=1048576
 low:1<=k
 top:k6W g k<=900000000
theorem KF.ks{g:az}(h:KF g k):1<=Li g k/\Li g k<=Tk g k/\Tk g k<=k3W g k/\k3W g k<=k4W g k/\k4W g k<=k5W g k/\k5W g k<=k6W g k/\k+6*g.aa.aB.length<=Li g k:=by
 have h1:=h.low;have h2:=Nh (Li g k) g.ae;unfold k6W k5W k4W k3W Tk;refine⟨by unfold Li;omega,h2,YG,YG,YG,YG,by unfold Li;omega⟩
theorem MH{g:az}(h:KF g k):kt (Sh g k) k=ZA (k6W g k):=by
 obtain⟨a1,a2,a3,a4,a5,a6,a7⟩:=h.ks;have ht:=h.top;have hl:=h.low;have e1:=PE k g.aa.aB.length h.aB hl YG;have e2:=uA (k+6*g.aa.aB.length) g.aa.off.length h.off YG YG;have e3:=Kf g.ae (Li g k) h.ae h.aK a1 (by unfold Tk at a3;omega)
 have e4:=Gg (Tk g k) g.aq.length h.aq YG YG;have e5:=C7 (k3W g k) g.ah.length h.ah YG YG;have e6:=MG (k4W g k) g.aJ.length h.aJ YG YG;have e7:=uA (k5W g k) g.skip.length h.skip YG YG;have f1:kT (Sh g k).aa k=ZA (Li g k):=by
  unfold kT Sh;simp only[e1,e2,VE];rw[Yz YG,YD,Yz YG,YD];rfl
 unfold kt;rw[f1];have g2:jD (Sh g k).ae (Li g k)=ZA (Tk g k):=e3;have g3:ik (Sh g k).aq (Tk g k)=ZA (k3W g k):=e4;have g4:iQ (Sh g k).ah (k3W g k)=ZA (k4W g k):=e5;have g5:kr (Sh g k).aJ (k4W g k)=ZA (k5W g k):=e6;have g6:eG (Sh g k).skip (k5W g k)=ZA (k6W g k):=e7;simp only[VE,g2,g3,g4,g5,g6];rw[Yz YG,Yz YG,Yz YG,Yz YG,Yz YG,Yz YG];rfl
set_option maxRecDepth 100000
structure MX(w a:World)(g n:Nat)(P:Nat->Option Value)(Q:Nat->Prop):Prop where
 os:a.os=w.os
 tape:a.tape=w.tape
 output:a.output=w.output
 size:w.heap.size<=a.heap.size
 row:∃c:Array Value,a.heap[g]?=ZA (.cells c 155 (0,0))/\c.size=n/\∀o v,P o=ZA v->c[o]?=ZA v
 tq:∀b,b<w.heap.size->b≠g->¬Q b->a.heap[b]?=w.heap[b]?
section
variable {w a b:World} {g n:Nat} {P P':Nat->Option Value} {Q:Nat->Prop}
theorem MX.lt(h:MX w a g n P Q):g<a.heap.size:=by obtain⟨c,h1,_⟩:=h.row;exact(VQ.1 h1).1
theorem MX.start(h:∃c:Array Value,w.heap[g]?=ZA (.cells c 155 (0,0))/\c.size=n/\∀o v,P o=ZA v->c[o]?=ZA v):MX w w g n P Q:=⟨rfl,rfl,rfl,VJ _,h,λ_ _ _ _=>rfl⟩
theorem MX.set(h:MX w a g n P Q)(o:Nat)(v:Value)(ho:o<n):MX w (a.setCell ⟨g,o,ZB⟩ v) g n (λx=>if x=o then ZA v else P x) Q:=by
 obtain⟨c,h1,h2,h3⟩:=h.row;refine⟨h.os,h.tape,h.output,by rw[World.size_setCell];exact h.size,⟨_,heap_setCell_same a g o c _ v h1,by simpa using h2,λx u hx=>?_⟩,λx hx hg hq=>(heap_setCell_other a ⟨g,o,ZB⟩ x v hg).trans (h.tq x hx hg hq)⟩
 by_cases e:x=o
 ·subst e
  simp only[if_true]at hx
  rw[XI YG];exact hx
 ·simp only[e,if_false]at hx
  rw[Xo (XA e)];exact h3 x u hx
theorem MX.up(h:MX w a g n P Q)(k:Up a b):MX w b g n P Q:=by
 obtain⟨c,h1,h2,h3⟩:=h.row;exact⟨k.os.trans h.os,k.tape.trans h.tape,k.output.trans h.output,Wb h.size k.size,⟨c,(k.block g h.lt).trans h1,h2,h3⟩,λx hx hg hq=>(k.block x (V4 hx h.size)).trans (h.tq x hx hg hq)⟩
theorem MX.upO(h:MX w a g n P Q)(k:mA O a b)(hO:∀x,O x->x≠g/\Q x):MX w b g n P Q:=by
 obtain⟨c,h1,h2,h3⟩:=h.row;exact⟨k.os.trans h.os,k.tape.trans h.tape,k.output.trans h.output,Wb h.size k.size,⟨c,(k.block g h.lt λho=>(hO g ho).1 rfl).trans h1,h2,h3⟩,λx hx hg hq=>(k.block x (V4 hx h.size) λho=>hq (hO x ho).2).trans (h.tq x hx hg hq)⟩
theorem MX.UH(h:MX w a g n P Q)(hP:∀o v,P' o=ZA v->P o=ZA v):MX w a g n P' Q:=by
 obtain⟨c,h1,h2,h3⟩:=h.row;exact⟨h.os,h.tape,h.output,h.size,⟨c,h1,h2,λo v ho=>h3 o v (hP o v ho)⟩,h.tq⟩
theorem MX.more(h:MX w a g n P Q)(hQ:∀x,Q x->Q' x):MX w a g n P Q':=⟨h.os,h.tape,h.output,h.size,h.row,λx hx hg hq=>h.tq x hx hg λh'=>hq (hQ x h')⟩
theorem MX.trans(h:MX w a g n P Q){Q':Nat->Prop}(k:MX a b g n P' Q')(hQ:∀x,Q' x->Q x):MX w b g n P' Q:=
 ⟨k.os.trans h.os,k.tape.trans h.tape,k.output.trans h.output,Wb h.size k.size,k.row,λx hx hg hq=>(k.tq x (V4 hx h.size) hg λh'=>hq (hQ x h')).trans (h.tq x hx hg hq)⟩
theorem MX.cell(h:MX w a g n P Q){o:Nat}(hP:P o=ZA v):a.cell? ⟨g,o,ZB⟩=ZA v:=by
 obtain⟨c,h1,h2,h3⟩:=h.row;rw[cell_of_row a g o c _ (0,0) h1];exact h3 o v hP
theorem MX.any(h:MX w a g n P Q){o:Nat}(ho:o<n):(∃u,a.cell? ⟨g,o,ZB⟩=ZA u)/\a.frozen? ⟨g,o,ZB⟩=false:=by
 obtain⟨c,h1,h2,h3⟩:=h.row;exact⟨⟨c[o]' YG,by rw[cell_of_row a g o c _ (0,0) h1];exact VU _⟩,frozen_of_row a g o c _ h1⟩
end
def sy(w:World)(aK:List aw)(u:Value)(B:cL):Prop:=
 (aK=[]/\B.z=ZC/\∃A c,u=.slice A 0 c)\/(B.z=ZD/\u=B.sv/\dA w E00 ⟨.of 46,2,aK.map aS⟩ B)
theorem sy.vm{w a:World}{aK:List aw}(h:sy w aK u B)(hh:B.z=ZD->a.heap[B.b]?=w.heap[B.b]?):sy a aK u B:=by
 rcases h with h|⟨h1,h2,h3⟩
 ·exact .inl h
 ·exact .inr ⟨h1,h2,h3.Ze7 hh⟩
theorem sy.one{w:World}{aK:List aw}(h:sy w aK u B):∃A c,u=.slice A aK.length c:=by
 rcases h with⟨rfl,_,A,c,rfl⟩ |⟨h1,rfl,h3⟩
 ·exact⟨A,c,rfl⟩
 ·refine⟨ZA ⟨B.b,0,ZB⟩,B.c,?_⟩
  have:=h3.n;simp only[VX]at this
  simp[cL.sv,h1,this]
theorem Qh(A:Option Addr)(c:Nat)(k:Int)(w:World):Calls prog 162 #[.slice A 0 c,ZF ZG k] w λe w'=>e=.returned (ZF ZG k)/\w'=w:=by
 go_enter func162,ntmps162
 go_wp2
 go_loopw [5,1] (λi kk wr=>i=ZF ZG 0/\kk=ZF ZG k/\wr=w) (λ_ _ _=>0)
 case atStart=>exact⟨rfl,rfl,rfl⟩
 case round=>
  obtain⟨rfl,rfl,rfl⟩:=hrel
  go_wp2
  go_ret
  exact⟨rfl,rfl⟩
theorem ZgF(h:cs∈l.map aS){p:PV}(hp:p∈cs):∃v,p=.v v:=by
 obtain⟨x,_,rfl⟩:=V6.1 h;simp only[aS,VM,VP,or_false]at hp
 rcases hp with rfl|rfl<;>exact⟨_,rfl⟩
theorem Zh6{w:World}{aK:List aw}(h:sy w aK u B)(hn:aK.length<=1048576)(h0:1<=k)(h1:k<=1000000000):
 Calls prog 162 #[u,ZF ZG k] w λe w'=>e=.returned (ZF ZG (k+2*(aK.length:Int)))/\sy w' (s9 k aK.length) u B/\mA (λb=>B.z=ZD/\b=B.b) w w':=by
 rcases h with⟨rfl,hz,A,c,rfl⟩ |⟨hz,rfl,hb⟩
 ·refine(Qh A c k w).mono ?_
  rintro e w' ⟨rfl,rfl⟩;exact⟨by simp,.inl ⟨rfl,hz,A,c,rfl⟩,mA.refl _ _⟩
 ·have hm:=Dv aK k hn h0 h1
  have hC:=CT.ok (P:=prog) hm;simp only[CT.f,CT.args,CT.m0,CT.res,CT.mem]at hC
  refine(hC.mark (λcs gl p hp=>ZgF gl hp) hb JV).mono ?_
  rintro e w' ⟨rfl,h2,h3⟩;exact⟨rfl,.inr ⟨hz,rfl,h2⟩,h3⟩
def ZfE(k:Int)(n:Nat):Nat->Option Value
 |0=>ZA (.string (bQ k))
 |1=>ZA (.string (bQ (k+1)))
 |2=>ZA (ZF ZG (k+1+1))
 |3=>ZA (ZF ZG (k+1+1+1))
 |4=>ZA (ZF ZG (k+1+1+1+1))
 |5=>ZA (ZF ZG (k+1+1+1+1+1))
 |7=>ZA (ZF ZG (k+1+1+1+1+1+1+2*n))
 |8=>ZA (ZF ZG (k+1+1+1+1+1+1+2*n+1))
 |9=>ZA (.string (bQ (k+1+1+1+1+1+1+2*n+1+1)))
 |10=>ZA (ZF ZG (k+1+1+1+1+1+1+2*n+1+1+1))
 |_=>ZB
def ZlN(os:List ay)(j:Nat):Nat:=match os[j]? with
 |some o=>o.aK.length
 |none=>0
def PP(os:List ay)(us:Nat->Value)(k:Int)(j:Nat)(o:Nat):Option Value:=
 if o / 11<os.length then(if o % 11=6 then ZA (us (o / 11))else if o / 11<j then ZfE (vn k (os.take (o / 11))) (ZlN os (o / 11)) (o % 11)else ZB)else ZB
def QW(os:List ay)(W:Nat->cL)(b:Nat):Prop:=∃j,j<os.length/\(W j).z=ZD/\b=(W j).b
structure MIq(os:List ay)(us:Nat->Value)(W:Nat->cL)(k:Int)(g N:Nat)(w:World)(j:Nat)(a:World):Prop where
 mx:MX w a g N (PP os us k j) (QW os W)
 done:∀i,i<j->∀o,os[i]?=ZA o->sy a (s9 (vn k (os.take i)+6) o.aK.length) (us i) (W i)
 rest:∀i,j<=i->∀o,os[i]?=ZA o->sy a o.aK (us i) (W i)
theorem RW{os:List ay}{o:ay}(h:os[j]?=ZA o):ZlN os j=o.aK.length:=by simp[ZlN,h]
theorem ZgM{os:List ay}{ord:ay}(hj:os[j]?=ZA ord)(hq:q=vn k (os.take j)){n:Nat}(hn:n=ord.aK.length)(o:Nat)(v:Value)(h:PP os us k (j+1) o=ZA v):
 (if o=j*11+10 then ZA (ZF ZG (q+1+1+1+1+1+1+2*n+1+1+1))else if o=j*11+9 then ZA (.string (bQ (q+1+1+1+1+1+1+2*n+1+1)))else if o=j*11+8 then ZA (ZF ZG (q+1+1+1+1+1+1+2*n+1))else if o=j*11+7 then ZA (ZF ZG (q+1+1+1+1+1+1+2*n))else if o=j*11+5 then ZA (ZF ZG (q+1+1+1+1+1))else if o=j*11+4 then ZA (ZF ZG (q+1+1+1+1))else if o=j*11+3 then ZA (ZF ZG (q+1+1+1))else if o=j*11+2 then ZA (ZF ZG (q+1+1))else if o=j*11+1 then ZA (.string (bQ (q+1)))else if o=j*11 then ZA (.string (bQ q))else PP os us k j o)=ZA v:=by
 have bO:j<os.length:=(VH.1 hj).1
 by_cases hd:o / 11=j
 ·have h6:o=j*11+o % 11:=YG
  unfold PP at h⊢
  rw[hd,if_pos bO]at h
  have hm:o % 11<11:=XM _ YG
  by_cases c6:o % 11=6
  ·rw[if_pos c6]at h
   rw[if_neg YG,if_neg YG,if_neg YG,if_neg YG,if_neg YG,if_neg YG,if_neg YG,if_neg YG,if_neg YG,if_neg YG,hd,if_pos bO,if_pos c6];exact h
  ·rw[if_neg c6,if_pos YG,RW hj,<-hn,<-hq]at h
   rw[hd,if_pos bO,if_neg c6,if_neg (XW j)];have:o % 11=0\/o % 11=1\/o % 11=2\/o % 11=3\/o % 11=4\/o % 11=5\/o % 11=7\/o % 11=8\/o % 11=9\/o % 11=10:=YG
   rcases this with e|e|e|e|e|e|e|e|e|e<;>rw[e]at h h6<;>simp only[ZfE]at h<;>rw[h6]<;>simp<;>simpa using h
 ·have ho:PP os us k j o=ZA v:=by
   unfold PP at h⊢
   split at h
   ·rename_i h1
    rw[if_pos h1]
    split at h
    ·rename_i h2;rw[if_pos h2];exact h
    ·rename_i h2
     rw[if_neg h2]
     split at h
     ·rename_i h3;rw[if_pos YG];exact h
     ·cases h
   ·cases h
  rw[if_neg YG,if_neg YG,if_neg YG,if_neg YG,if_neg YG,if_neg YG,if_neg YG,if_neg YG,if_neg YG,if_neg YG];exact ho
theorem M9(os:List ay)(us:Nat->Value)(W:Nat->cL)(k:Int)(g c N:Nat)(hN:os.length*11<=N)(w:World)(hs:MIq os us W k g N w 0 w)(hn:os.length<=1048576)(hw:∀o∈os,o.aK.length<=1048576)(h0:1<=k)(h1:vn k os<=1000000000)
 (hg:∀j,j<os.length->(W j).z=ZD->(W j).b≠g) (hd:∀i j,i<os.length->j<os.length->(W i).z=ZD->(W j).z=ZD->(W i).b=(W j).b->i=j):
 Calls prog 160 #[.slice (ZA ⟨g,0,ZB⟩) os.length c,ZF ZG k] w λe w'=>e=.returned (ZF ZG (vn k os))/\MIq os us W k g N w os.length w':=by
 have HG:=Lib.hid hg;have HD:=Lib.hid hd;have HW:=Lib.hid hw;have H1:=Lib.hid h1;clear hg hd hw h1
 go_enter func160,ntmps160
 go_wp2
 go_loopw [5,1] (λi kk wr=>∃j:Nat,j<=os.length/\i=ZF ZG j/\kk=ZF ZG (vn k (os.take j))/\MIq os us W k g N w j wr) (λi _ _=>os.length-(intOf i).toNat)
 case atStart=>exact⟨0,YG,rfl,rfl,hs⟩
 case round=>
  obtain⟨j,hj,rfl,rfl,hM⟩:=hrel
  by_cases bO:j<os.length
  ·obtain⟨ord,ho⟩:∃o,os[j]?=ZA o:=⟨_,VF bO⟩
   have vl:vn k (os.take (j+1))=vn k (os.take j)+10+2*(ord.aK.length:Int):=by rw[WY,ho];exact Ql _ _ _
   have IW:1<=vn k (os.take j):=WM h0 (Nh _ _);have Ey:vn k (os.take (j+1))<=1000000000:=WM (Qm _ _ _) H1.out;have PO:=HW.out ord (VI ho);have BS:=hM.rest j (VJ j) ord ho;obtain⟨A6,c6,hu6⟩:=BS.one;have HST:=Lib.hid (fun(o:Nat) (v:Value)=>ZgM (os:=os) (us:=us) (k:=k) ho rfl rfl o v)
   have HQ:=Lib.hid vl;have HO:=Lib.hid ho;have HMI:=Lib.hid hM;have X0:MX wr wr g N (PP os us k j) (λ_=>False):=MX.start hM.mx.row
   have p6:PP os us k j (j*11+6)=ZA (us j):=by
    unfold PP;rw[show(j*11+6) / 11=j by omega,if_pos bO,if_pos YG]
   rw[vl]at Ey
   clear vl ho hM hs;generalize hqq:vn k (os.take j)=q at *
   generalize MO:ord.aK.length=n at *
   have HE:=Lib.hid hqq;clear hqq
   go_wp2_with fail
   refine(jx _ _ YG YG).mono ?_;rintro e w1 ⟨rfl,uQ⟩;have X1:=X0.up uQ;clear uQ;obtain⟨⟨u0,d0⟩,f0⟩:=X1.any (o:=j*11) YG
   go_wp2_with fail
   refine(jx _ _ YG YG).mono ?_;rintro e w2 ⟨rfl,xj⟩;have X2:=(X1.set (j*11) (.string (bQ q)) YG).up xj;clear xj d0 f0;obtain⟨⟨u1,d1⟩,f1⟩:=X2.any (o:=j*11+1) YG;obtain⟨⟨u2,d2⟩,f2⟩:=X2.any (o:=j*11+2) YG;obtain⟨⟨u3,d3⟩,f3⟩:=X2.any (o:=j*11+3) YG;obtain⟨⟨u4,d4⟩,f4⟩:=X2.any (o:=j*11+4) YG;obtain⟨⟨u5,d5⟩,f5⟩:=X2.any (o:=j*11+5) YG;have d6:w2.cell? ⟨g,j*11+6,ZB⟩=ZA (us j):=X2.cell (by rw[if_neg YG];exact p6)
   rw[hu6]at d6
   have X0h:=Lib.hid X0;have X1h:=Lib.hid X1;have X2h:=Lib.hid X2;have HWy:=Lib.hid BS;have HU:=Lib.hid hu6;have HP:=Lib.hid p6;clear X0 X1 X2 BS hu6 p6
   go_wp2_with fail
   have Xc:=((((X2h.out.set (j*11+1) (.string (bQ (q+1))) YG).set (j*11+2) (ZF ZG (q+1+1)) YG).set (j*11+3) (ZF ZG (q+1+1+1)) YG).set (j*11+4) (ZF ZG (q+1+1+1+1)) YG).set (j*11+5) (ZF ZG (q+1+1+1+1+1)) YG;have hWb:∀(i:Nat) (o:ay),sy wr o.aK (us i) (W i)->(W i).z=ZD->(W i).b<wr.heap.size:=λi o h hz=>by
    rcases h with⟨_,h2,_⟩ |⟨_,_,hb⟩
    ·rw[hz]at h2;cases h2
    ·obtain⟨cells,m1,_⟩:=hb.mem hz
     exact(VQ.1 m1).1
   have hwc:=HWy.out.vm λhz=>Xc.tq _ (hWb j ord HWy.out hz) (HG.out j bO hz) (λh=>h)
   have xG:=Zh6 hwc YG (k:=q+1+1+1+1+1+1) YG YG;rw[HU.out,MO]at xG
   have HCA:=Lib.hid xG;have XcH:=Lib.hid Xc;clear xG hwc Xc;refine HCA.out.mono ?_;rintro e w3 ⟨rfl,Fw,Oe⟩;have X3:=(XcH.out.more (Q':=λb=>(W j).z=ZD/\b=(W j).b) (λ_ h=>h.elim)).upO Oe (λx hx=>⟨by rw[hx.2];exact HG.out j bO hx.1,hx⟩)
   obtain⟨⟨u7,d7⟩,f7⟩:=X3.any (o:=j*11+7) YG;obtain⟨⟨u8,d8⟩,f8⟩:=X3.any (o:=j*11+8) YG;have X3h:=Lib.hid X3;have HW3:=Lib.hid Fw;clear X3 Fw Oe d1 d2 d3 d4 d5 d6 f1 f2 f3 f4 f5
   go_wp2_with fail
   refine(jx _ _ YG YG).mono ?_;rintro e w4 ⟨rfl,hb4⟩;have X4:=((X3h.out.set (j*11+7) (ZF ZG (q+1+1+1+1+1+1+2*(n:Int))) YG).set (j*11+8) (ZF ZG (q+1+1+1+1+1+1+2*(n:Int)+1)) YG).up hb4;obtain⟨⟨u9,d9⟩,f9⟩:=X4.any (o:=j*11+9) YG;obtain⟨⟨u10,d10⟩,f10⟩:=X4.any (o:=j*11+10) YG;have X4h:=Lib.hid X4;have HB4:=Lib.hid hb4;clear X4 hb4 d7 d8 f7 f8
   go_wp2_with fail
   have X5:=(X4h.out.set (j*11+9) (.string (bQ (q+1+1+1+1+1+1+2*(n:Int)+1+1))) YG).set (j*11+10) (ZF ZG (q+1+1+1+1+1+1+2*(n:Int)+1+1+1)) YG;have hlen:∀{i:Nat} {o:ay},os[i]?=ZA o->i<os.length:=λh=>(VH.1 h).1
   have wlt:∀{a:World} {aK:List aw} {u:Value} {B:cL},sy a aK u B->B.z=ZD->B.b<a.heap.size:=λ{a aK u B} h hz=>by
    rcases h with⟨_,h2,_⟩ |⟨_,_,hb⟩
    ·rw[hz]at h2;cases h2
    ·obtain⟨cells,m1,_⟩:=hb.mem hz
     exact(VQ.1 m1).1
   have vm:∀{i:Nat} {aK:List aw} {u:Value},i<os.length->i≠j->sy wr aK u (W i)->sy _ aK u (W i):=λ{i aK u} hi dX h=>
    h.vm λhz=>X5.tq _ (wlt h hz) (HG.out i hi hz) λhh=>dX (HD.out i j hi bO hz hh.1 hh.2)
   refine⟨⟨j+1,YG,by go_num,by rw[HQ.out];congr 1;omega,⟨(HMI.out.mx.trans X5 λx hx=>⟨j,bO,hx.1,hx.2⟩).UH HST.out,λi hi o Bs=>?_,λi hi o Bs=>?_⟩⟩,by simp[intOf];omega⟩
   ·rcases Wg i j with h|h
    ·exact vm (hlen Bs) YG (HMI.out.done i h o Bs)
    ·obtain rfl:i=j:=YG
     have e:ord=o:=by have:=HO.out;rw[Bs]at this;exact(VG this).symm
     subst e;rw[MO,HU.out];have h3:=HW3.out;rw[show q+1+1+1+1+1+1=vn k (os.take i)+6 by rw[HE.out];omega]at h3
     refine h3.vm λhz=>?_
     have dX:=HG.out i bO hz;rw[heap_setCell_other _ _ _ _ dX,heap_setCell_other _ _ _ _ dX];refine(HB4.out.block _ (by simp only[World.size_setCell];exact wlt h3 hz)).trans ?_
     rw[heap_setCell_other _ _ _ _ dX,heap_setCell_other _ _ _ _ dX]
   ·exact vm (hlen Bs) YG (HMI.out.rest i YG o Bs)
  ·obtain rfl:j=os.length:=YG
   have HT:=Lib.hid (show vn k (os.take os.length)=vn k os by rw[WA])
   go_wp2_with fail
   go_ret
   exact⟨Zlp (by rw[HT.out]),hM⟩
def cOU(o:ay)(u:Value):List PV:=[vs o.ar,vs o.aX,vi o.ax,vi o.ab,vi o.aO,vi o.ec,.v u,vi o.aN,vi o.state,vs o.place,vi o.bK]
def Ku(os:List ay)(us:Nat->Value):List (List PV):=os.mapIdx λj o=>cOU o (us j)
theorem DF{os:List ay}(h:(Ku os us)[i]?=ZA cs):∃o,os[i]?=ZA o/\cs=cOU o (us i):=by
 unfold Ku at h
 rw[WW]at h
 obtain⟨o,h1,rfl⟩:=VT.1 h;exact⟨o,h1,rfl⟩
theorem Nx{os:List ay}{o:ay}(h:os[i]?=ZA o):(Ku os us)[i]?=ZA (cOU o (us i)):=by
 unfold Ku;rw[WW,h];rfl
theorem zL{os:List ay}:(Ku os us).length=os.length:=by simp[Ku]
theorem M8(A:Option Addr)(c:Nat)(k:Int)(w:World):Calls prog 160 #[.slice A 0 c,ZF ZG k] w λe w'=>e=.returned (ZF ZG k)/\w'=w:=by
 go_enter func160,ntmps160
 go_wp2
 go_loopw [5,1] (λi kk wr=>i=ZF ZG 0/\kk=ZF ZG k/\wr=w) (λ_ _ _=>0)
 case atStart=>exact⟨rfl,rfl,rfl⟩
 case round=>
  obtain⟨rfl,rfl,rfl⟩:=hrel
  go_wp2
  go_ret
  exact⟨rfl,rfl⟩
abbrev RB(w:World)(T:TypeId)(k:Nat)(es:List (List PV))(B:cL):Prop:=dA w E00 ⟨.of T,k,es⟩ B
theorem RB.lt{w:World}{T:TypeId}{k:Nat}(h:RB w T k es B)(hz:B.z=ZD):B.b<w.heap.size:=by
 obtain⟨cells,m1,_⟩:=h.mem hz;exact(VQ.1 m1).1
theorem sy.lt{a:World}{aK:List aw}(h:sy a aK u B)(hz:B.z=ZD):B.b<a.heap.size:=by
 rcases h with⟨_,h2,_⟩ |⟨_,_,hb⟩
 ·rw[hz]at h2;cases h2
 ·obtain⟨cells,m1,_⟩:=hb.mem hz
  exact(VQ.1 m1).1
theorem Zcm{n:Nat}{p:PV}(h:(cOU (mOr q n) u)[j]?=ZA p)(h6:j≠6):∃v,p=.v v/\ZfE q n j=ZA v/\v.oneCell'=true:=by
 match j,h with
 |0,h=>obtain rfl:=VG h;exact⟨_,rfl,rfl,rfl⟩
 |1,h=>obtain rfl:=VG h;exact⟨_,rfl,rfl,rfl⟩
 |2,h=>obtain rfl:=VG h;exact⟨_,rfl,by show ZA (Value.int .i64 (q+1+1))=ZA (ZF ZG (q+2));congr 2;omega,rfl⟩
 |3,h=>obtain rfl:=VG h;exact⟨_,rfl,by show ZA (Value.int .i64 (q+1+1+1))=ZA (ZF ZG (q+3));congr 2;omega,rfl⟩
 |4,h=>obtain rfl:=VG h;exact⟨_,rfl,by show ZA (Value.int .i64 (q+1+1+1+1))=ZA (ZF ZG (q+4));congr 2;omega,rfl⟩
 |5,h=>obtain rfl:=VG h;exact⟨_,rfl,by show ZA (Value.int .i64 (q+1+1+1+1+1))=ZA (ZF ZG (q+5));congr 2;omega,rfl⟩
 |6,h=>exact absurd rfl h6
 |7,h=>obtain rfl:=VG h;exact⟨_,rfl,by show ZA (Value.int .i64 (q+1+1+1+1+1+1+2*n))=ZA (ZF ZG (q+6+2*n));congr 2;omega,rfl⟩
 |8,h=>obtain rfl:=VG h;exact⟨_,rfl,by show ZA (Value.int .i64 (q+1+1+1+1+1+1+2*n+1))=ZA (ZF ZG (q+7+2*n));congr 2;omega,rfl⟩
 |9,h=>obtain rfl:=VG h;exact⟨_,rfl,by show ZA (Value.string (bQ (q+1+1+1+1+1+1+2*n+1+1)))=ZA (.string (bQ (q+8+2*n)));congr 3;omega,rfl⟩
 |10,h=>obtain rfl:=VG h;exact⟨_,rfl,by show ZA (Value.int .i64 (q+1+1+1+1+1+1+2*n+1+1+1))=ZA (ZF ZG (q+9+2*n));congr 2;omega,rfl⟩
 |j+11,h=>simp[cOU]at h
theorem Zh5{w:World}{os:List ay}(hB:RB w 155 11 (Ku os us) B)(hW:∀j o,os[j]?=ZA o->sy w o.aK (us j) (W j))
 (hn:os.length<=1048576) (hw:∀o∈os,o.aK.length<=1048576) (h0:1<=k) (h1:vn k os<=1000000000)
 (hg:∀j,j<os.length->(W j).z=ZD->B.z=ZD->(W j).b≠B.b) (hd:∀i j,i<os.length->j<os.length->(W i).z=ZD->(W j).z=ZD->(W i).b=(W j).b->i=j):
 Calls prog 160 #[B.sv,ZF ZG k] w λe w'=>e=.returned (ZF ZG (vn k os))/\RB w' 155 11 (Ku (mkOr k os) us) B/\(∀j o,(mkOr k os)[j]?=ZA o->sy w' o.aK (us j) (W j))/\mA (λb=>(B.z=ZD/\b=B.b)\/QW os W b) w w':=by
 cases hz:B.z with
 |true=>
  have h0':=hB.nil hz;have:os=[]:=by
   have:=congrArg Yi h0';rw[zL]at this
   exact W4.1 this
  subst this;refine(by simpa[cL.sv,hz]using M8 ZB 0 k w:Calls prog 160 #[B.sv,ZF ZG k] w λe w'=>e=.returned (ZF ZG k)/\w'=w).mono ?_
  rintro e w' ⟨rfl,rfl⟩;exact⟨rfl,hB,λj o h=>by simp[mkOr]at h,mA.refl _ _⟩
 |false=>
  obtain⟨cells,m1,m2,m3⟩:=hB.mem hz;have hk:B.k=11:=hB.k;have MO:B.n=os.length:=hB.n.trans zL;have hT:B.T=155:=hB.T;rw[hT]at m1
  rw[hk]at m2 m3
  have xt:=hB.nc;have hs:MIq os us W k B.b cells.size w 0 w:=by
   refine⟨MX.start ⟨cells,m1,rfl,λo v ho=>?_⟩,λi hi=>absurd hi (WE i),λi _ o ho=>hW i o ho⟩
   unfold PP at ho
   split at ho
   ·rename_i bO
    split at ho
    ·rename_i h6
     have hx:os[o / 11]?=ZA os[o / 11]:=VF bO;obtain⟨x,x1,x2,x3⟩:=m3 _ _ 6 (.v (us (o / 11))) (Nx hx) rfl;obtain⟨rfl,_⟩:=x3.cF;rw[show o / 11*11+6=o by omega]at x1
     rw[x1];exact ho
    ·rw[if_neg (WE _)]at ho;cases ho
   ·cases ho
  have La:B.sv=.slice (ZA ⟨B.b,0,ZB⟩) os.length B.c:=by simp[cL.sv,hz,MO]
  rw[La];refine(M9 os us W k B.b B.c cells.size (by rw[m2];exact V1 _ YG) w hs hn hw h0 h1 (λj hj hzj=>hg j hj hzj hz) hd).mono ?_
  rintro e w' ⟨rfl,hM⟩;have BS:∀j o,(mkOr k os)[j]?=ZA o->sy w' o.aK (us j) (W j):=λj o ho=>by
   rw[Jd]at ho
   obtain⟨x,h2,rfl⟩:=VT.1 ho;exact hM.done j (VH.1 h2).1 x h2
  refine⟨rfl,⟨hk,by rw[MO,zL,vW],hT,hB.pos,hB.nc,hB.cm,λi cs hi=>?_,λh=>Zt,λ_=>?_,λ_ h=>by cases h⟩,BS,⟨hM.mx.os,hM.mx.tape,hM.mx.output,hM.mx.size,λb hb hn=>hM.mx.tq b hb (λe=>hn (.inl ⟨rfl,e⟩)) λhq=>hn (.inr hq)⟩⟩
  ·obtain⟨o,_,rfl⟩:=DF hi
   rw[hk];rfl
  ·obtain⟨c,c1,c2,c3⟩:=hM.mx.row
   refine⟨c,by rw[hT];exact c1,by rw[c2,m2,hk],λi cs j p hi hj=>?_⟩
   obtain⟨o,ho,rfl⟩:=DF hi;rw[Jd]at ho
   obtain⟨x,h2,rfl⟩:=VT.1 ho;have wI:i<os.length:=(VH.1 h2).1;have MM:j<11:=by have:=(VH.1 hj).1;simpa[cOU]using this
   rw[hk]
   by_cases h6:j=6
   ·subst h6
    obtain rfl:=VG hj;obtain⟨A,cc,hu⟩:=(hM.done i wI x h2).one;refine⟨us i,c3 _ _ ?_,by rw[hu];rfl,.c (.v _ (by rw[hu];rfl))⟩
    unfold PP;rw[show(i*11+6) / 11=i by omega,if_pos wI,if_pos YG]
   ·obtain⟨v,rfl,hv,h1c⟩:=Zcm hj h6
    refine⟨v,c3 _ _ ?_,h1c,.c (.v _ h1c)⟩;unfold PP;rw[show(i*11+j) / 11=i by omega,if_pos wI,if_neg YG,if_pos wI,RW h2,show(i*11+j) % 11=j by omega]
    exact hv
theorem RB.cx{w w':World}{T:TypeId}{k:Nat}(h:RB w T k es B)(hu:mA O w w')(hO:B.z=ZD->¬O B.b):RB w' T k es B:=h.Ze7 λhz=>hu.block _ (RB.lt h hz) (hO hz)
theorem sy.cx{w w':World}{aK:List aw}(h:sy w aK u B)(hu:mA O w w')(hO:B.z=ZD->¬O B.b):sy w' aK u B:=h.vm λhz=>hu.block _ (h.lt hz) (hO hz)
theorem bC{a b:World}{x o:Nat}(hu:mA O a b)(h:a.cell? ⟨x,o,ZB⟩=ZA v)(hO:¬O x):b.cell? ⟨x,o,ZB⟩=ZA v:=by
 have bO:=World.block_lt_of_cell? _ _ h;rw[cell_of_heap (hu.block x bO hO)];exact h
theorem IC{l:List bM}(h:cs∈l.map br){p:PV}(hp:p∈cs):∃v,p=.v v:=by
 obtain⟨x,_,rfl⟩:=V6.1 h;simp only[br,VM,VP,or_false]at hp
 repeat(first|(rcases hp with rfl|hp;exact⟨_,rfl⟩) |(subst hp;exact⟨_,rfl⟩))
theorem Zfm{w:World}{l:List bM}(hB:RB w 174 6 (l.map br) B)(hl:l.length<=1048576)(h0:1<=k)(h1:k<=1000000000):
 Calls prog 252 #[B.sv,ZF ZG k] w λe w'=>e=.returned (ZF ZG (k+6*l.length))/\RB w' 174 6 ((tS k l.length).map br) B/\mA (λb=>B.z=ZD/\b=B.b) w w':=by
 have hm:=Qg l k hl h0 h1;have hC:=CT.ok (P:=prog) hm;simp only[CT.f,CT.args,CT.m0,CT.res,CT.mem]at hC
 exact hC.mark (λcs gl p hp=>IC gl hp) hB JV
theorem pH{l:List Int}(h:cs∈l.map aI){p:PV}(hp:p∈cs):∃v,p=.v v:=by
 obtain⟨x,_,rfl⟩:=V6.1 h;simp only[aI,VM,VP,or_false]at hp
 repeat(first|(rcases hp with rfl|hp;exact⟨_,rfl⟩) |(subst hp;exact⟨_,rfl⟩))
theorem zB{w:World}{l:List Int}(hB:RB w 3 1 (l.map aI) B)(hl:l.length<=1048576)(h0:1<=k)(h1:k<=1000000000):
 Calls prog 74 #[B.sv,ZF ZG k] w λe w'=>e=.returned (ZF ZG (k+l.length))/\RB w' 3 1 ((zD k l.length).map aI) B/\mA (λb=>B.z=ZD/\b=B.b) w w':=by
 have hm:=Qf l k hl h0 h1;have hC:=CT.ok (P:=prog) hm;simp only[CT.f,CT.args,CT.m0,CT.res,CT.mem]at hC
 exact hC.mark (λcs gl p hp=>pH gl hp) hB JV
theorem yl{l:List aj}(h:cs∈l.map aC){p:PV}(hp:p∈cs):∃v,p=.v v:=by
 obtain⟨x,_,rfl⟩:=V6.1 h;simp only[aC,VM,VP,or_false]at hp
 repeat(first|(rcases hp with rfl|hp;exact⟨_,rfl⟩) |(subst hp;exact⟨_,rfl⟩))
theorem M5{w:World}{l:List aj}(hB:RB w 177 4 (l.map aC) B)(hl:l.length<=1048576)(h0:1<=k)(h1:k<=1000000000):
 Calls prog 161 #[B.sv,ZF ZG k] w λe w'=>e=.returned (ZF ZG (k+4*l.length))/\RB w' 177 4 ((uI k l.length).map aC) B/\mA (λb=>B.z=ZD/\b=B.b) w w':=by
 have hm:=Gs l k hl h0 h1;have hC:=CT.ok (P:=prog) hm;simp only[CT.f,CT.args,CT.m0,CT.res,CT.mem]at hC
 exact hC.mark (λcs gl p hp=>yl gl hp) hB JV
theorem Aq(h:cs∈l.map aS){p:PV}(hp:p∈cs):∃v,p=.v v:=by
 obtain⟨x,_,rfl⟩:=V6.1 h;simp only[aS,VM,VP,or_false]at hp
 repeat(first|(rcases hp with rfl|hp;exact⟨_,rfl⟩) |(subst hp;exact⟨_,rfl⟩))
theorem Zb8{w:World}(hB:RB w 46 2 (l.map aS) B)(hl:l.length<=1048576)(h0:1<=k)(h1:k<=1000000000):
 Calls prog 162 #[B.sv,ZF ZG k] w λe w'=>e=.returned (ZF ZG (k+2*l.length))/\RB w' 46 2 ((s9 k l.length).map aS) B/\mA (λb=>B.z=ZD/\b=B.b) w w':=by
 have hm:=Dv l k hl h0 h1;have hC:=CT.ok (P:=prog) hm;simp only[CT.f,CT.args,CT.m0,CT.res,CT.mem]at hC
 exact hC.mark (λcs gl p hp=>Aq gl hp) hB JV
theorem En{l:List bc}(h:cs∈l.map bt){p:PV}(hp:p∈cs):∃v,p=.v v:=by
 obtain⟨x,_,rfl⟩:=V6.1 h;simp only[bt,VM,VP,or_false]at hp
 repeat(first|(rcases hp with rfl|hp;exact⟨_,rfl⟩) |(subst hp;exact⟨_,rfl⟩))
theorem Zb7{w:World}{l:List bc}(hB:RB w 181 6 (l.map bt) B)(hl:l.length<=1048576)(h0:1<=k)(h1:k<=1000000000):
 Calls prog 163 #[B.sv,ZF ZG k] w λe w'=>e=.returned (ZF ZG (k+6*l.length))/\RB w' 181 6 ((uK k l.length).map bt) B/\mA (λb=>B.z=ZD/\b=B.b) w w':=by
 have hm:=Nc l k hl h0 h1;have hC:=CT.ok (P:=prog) hm;simp only[CT.f,CT.args,CT.m0,CT.res,CT.mem]at hC
 exact hC.mark (λcs gl p hp=>En gl hp) hB JV
structure GW(w:World)(g:az)(us:Nat->Value)(W:Nat->cL)(B0 B1 B3 B4 B5 B7 B8:cL):Prop where
 r0:RB w 174 6 (g.aa.aB.map br) B0
 r1:RB w 3 1 (g.aa.off.map aI) B1
 r3:RB w 155 11 (Ku g.ae us) B3
 r4:RB w 177 4 (g.aq.map aC) B4
 r5:RB w 46 2 (g.ah.map aS) B5
 r7:RB w 181 6 (g.aJ.map bt) B7
 r8:RB w 3 1 (g.skip.map aI) B8
 aK:∀j o,g.ae[j]?=ZA o->sy w o.aK (us j) (W j)
def Nk(a b:cL):Prop:=a.z=ZD->b.z=ZD->a.b≠b.b
structure GD(n:Nat)(W:Nat->cL)(B0 B1 B3 B4 B5 B7 B8:cL):Prop where
 rows:List.Pairwise Nk [B0,B1,B3,B4,B5,B7,B8]
 wr:∀j,j<n->∀B∈[B0,B1,B3,B4,B5,B7,B8],Nk (W j) B
 ww:∀i j,i<n->j<n->(W i).z=ZD->(W j).z=ZD->(W i).b=(W j).b->i=j
def GB(os:List ay)(W:Nat->cL)(B0 B1 B3 B4 B5 B7 B8:cL)(b:Nat):Prop:=(∃B∈[B0,B1,B3,B4,B5,B7,B8],B.z=ZD/\b=B.b)\/QW os W b
theorem GW.lt{w:World}{g:az}{us:Nat->Value}{W:Nat->cL}{B0 B1 B3 B4 B5 B7 B8:cL}(h:GW w g us W B0 B1 B3 B4 B5 B7 B8){b:Nat}(hb:GB g.ae W B0 B1 B3 B4 B5 B7 B8 b):b<w.heap.size:=by
 rcases hb with⟨B,hB,hz,rfl⟩ |⟨j,hj,hz,rfl⟩
 ·simp only[VM,VP,or_false]at hB
  rcases hB with rfl|rfl|rfl|rfl|rfl|rfl|rfl
  ·exact RB.lt h.r0 hz
  ·exact RB.lt h.r1 hz
  ·exact RB.lt h.r3 hz
  ·exact RB.lt h.r4 hz
  ·exact RB.lt h.r5 hz
  ·exact RB.lt h.r7 hz
  ·exact RB.lt h.r8 hz
 ·exact(h.aK j _ (VF hj)).lt hz
theorem GW.cx{w w':World}{g:az}{us:Nat->Value}{W:Nat->cL}{B0 B1 B3 B4 B5 B7 B8:cL}{O:Nat->Prop}(h:GW w g us W B0 B1 B3 B4 B5 B7 B8)(hu:mA O w w')(hO:∀b,GB g.ae W B0 B1 B3 B4 B5 B7 B8 b->¬O b):GW w' g us W B0 B1 B3 B4 B5 B7 B8:=
 ⟨h.r0.cx hu λhz=>hO _ (.inl ⟨B0,by simp,hz,rfl⟩),h.r1.cx hu λhz=>hO _ (.inl ⟨B1,by simp,hz,rfl⟩),h.r3.cx hu λhz=>hO _ (.inl ⟨B3,by simp,hz,rfl⟩),h.r4.cx hu λhz=>hO _ (.inl ⟨B4,by simp,hz,rfl⟩),h.r5.cx hu λhz=>hO _ (.inl ⟨B5,by simp,hz,rfl⟩),h.r7.cx hu λhz=>hO _ (.inl ⟨B7,by simp,hz,rfl⟩),h.r8.cx hu λhz=>hO _ (.inl ⟨B8,by simp,hz,rfl⟩),λj o ho=>(h.aK j o ho).cx hu λhz=>hO _ (.inr ⟨j,(VH.1 ho).1,hz,rfl⟩)⟩
theorem mA.of{w w':World}(h:Up w w'):mA (λ_=>False) w w':=⟨h.os,h.tape,h.output,h.size,λb hb _=>h.block b hb⟩
theorem mA.more{O O':Nat->Prop}{w w':World}(h:mA O w w')(hO:∀b,O b->O' b):mA O' w w':=⟨h.os,h.tape,h.output,h.size,λb hb hn=>h.block b hb λh'=>hn (hO b h')⟩
theorem zf(w:World)(o:Obj):Up w (w.alloc o):=by(repeat(first|exact Up.rfl' _|(refine Up.al _ ?_) |(refine Up.dr _ ?_) |(refine Up.pE ?_) |(refine Up.sc ?_ YL _) |(refine Up.step YO ?_)))
theorem jF(w:World)(cs:Array Value)(T:TypeId)(h:cs[j]?=ZA v):(w.alloc (.cells cs T)).cell? ⟨w.heap.size,j,ZB⟩=ZA v:=by
 rw[cell_of_row _ _ j cs T (0,0) (heap_alloc_new w _)];exact h
theorem Ko(v0 v1 v2:Value){B0 B1:cL}(e0:v0=B0.sv)(e1:v1=B1.sv)(n:ak)(k:Int)(w:World)(r0:RB w 174 6 (n.aB.map br) B0)(r1:RB w 3 1 (n.off.map aI) B1)(dX:Nk B0 B1)(hl:n.aB.length<=1048576)(ho:n.off.length<=1048576)(h0:1<=k)(h1:k<=900000000):
 Calls prog 159 #[.agg #[v0,v1,v2],ZF ZG k] w λe w'=>e=.returned (ZF ZG (k+6*(n.aB.length:Int)+(n.off.length:Int)))/\RB w' 174 6 ((tS k n.aB.length).map br) B0/\RB w' 3 1 ((zD (k+6*(n.aB.length:Int)) n.off.length).map aI) B1/\mA (λb=>(B0.z=ZD/\b=B0.b)\/(B1.z=ZD/\b=B1.b)) w w':=by
 have u0:=mA.of (zf w (.cells #[v0,v1,v2] 27));have c0:=Zfm (r0.cx u0 λ_ h=>h) hl h0 (k:=k) YG
 have lt0:=λhz=>RB.lt r0 hz
 have lt1:=λhz=>RB.lt r1 hz
 have R1:=r1.cx u0 λ_ h=>h
 have d1:=jF w #[v0,v1,v2] 27 (j:=1) rfl;rw[<-e0]at c0
 have C0:=Lib.hid c0;have D1:=Lib.hid d1;have U0:=Lib.hid u0;have HR1:=Lib.hid R1;have L0:=Lib.hid lt0;have L1:=Lib.hid lt1;have HN:=Lib.hid dX;have E1:=Lib.hid e1;clear c0 d1 u0 R1 lt0 lt1 r0 r1 dX e0 e1
 go_enter func159,ntmps159
 go_wp2_with fail
 refine C0.out.mono ?_;rintro e w1 ⟨rfl,q0,q1⟩;have c1:w1.cell? ⟨w.heap.size,1,ZB⟩=ZA v1:=bC q1 D1.out λh=>by have:=L0.out h.1;omega
 have HQ0:=Lib.hid q0;have HQ1:=Lib.hid q1;clear q0 q1;have R1':=HR1.out.cx HQ1.out λhz h=>HN.out h.1 hz h.2.symm
 have c2:=zB R1' ho (k:=k+6*(n.aB.length:Int)) YG YG;rw[<-E1.out]at c2
 have C2:=Lib.hid c2;clear c2 R1'
 go_wp2_with fail
 refine C2.out.mono ?_;rintro e w2 ⟨rfl,p0,p1⟩;have P0:=Lib.hid p0;have P1:=Lib.hid p1;clear p0 p1 c1
 go_wp2_with fail
 go_ret
 exact⟨rfl,HQ0.out.cx P1.out λhz h=>HN.out hz h.1 h.2,P0.out,((U0.out.more λ_ h=>h.elim).trans HQ1.out λb hb h=>.inl h).trans P1.out λb hb h=>.inr h⟩
theorem Qi(v0 v1 v2 v3 v4 v5 v6 v7 v8 v9:Value){B0 B1 B3 B4 B5 B7 B8:cL}(e0:v0=B0.sv)(e1:v1=B1.sv)(e3:v3=B3.sv)(e4:v4=B4.sv)(e5:v5=B5.sv)(e7:v7=B7.sv)(e8:v8=B8.sv)(g:az)(k:Int)(w:World)
 (h:GW w g us W B0 B1 B3 B4 B5 B7 B8) (hd:GD g.ae.length W B0 B1 B3 B4 B5 B7 B8) (hf:KF g k):
 Calls prog 71 #[.agg #[v0,v1,v2,v3,v4,v5,v6,v7,v8,v9],ZF ZG k] w λe w'=>e=.returned (ZF ZG (k6W g k))/\GW w' (Sh g k) us W B0 B1 B3 B4 B5 B7 B8/\mA (GB g.ae W B0 B1 B3 B4 B5 B7 B8) w w':=by
 obtain⟨a1,a2,a3,a4,a5,a6,a7⟩:=hf.ks;have ht:=hf.top;have Db:=hf.low;obtain⟨hdr,BU,hww⟩:=hd;simp only[List.pairwise_cons,VM,VP,or_false,forall_eq_or_imp,forall_eq,List.Pairwise.nil,and_true,false_implies,implies_true]at hdr
 obtain⟨⟨n01,n03,n04,n05,n07,n08⟩,⟨n13,n14,n15,n17,n18⟩,⟨n34,n35,n37,n38⟩,⟨n45,n47,n48⟩,⟨n57,n58⟩,n78⟩:=hdr;have GR:∀b,GB g.ae W B0 B1 B3 B4 B5 B7 B8 b->b<w.heap.size:=λb hb=>h.lt hb
 have i0:∀b,B0.z=ZD/\b=B0.b->GB g.ae W B0 B1 B3 B4 B5 B7 B8 b:=λb hb=>.inl ⟨B0,by simp,hb⟩
 have i1:∀b,B1.z=ZD/\b=B1.b->GB g.ae W B0 B1 B3 B4 B5 B7 B8 b:=λb hb=>.inl ⟨B1,by simp,hb⟩
 have i3:∀b,B3.z=ZD/\b=B3.b->GB g.ae W B0 B1 B3 B4 B5 B7 B8 b:=λb hb=>.inl ⟨B3,by simp,hb⟩
 have i4:∀b,B4.z=ZD/\b=B4.b->GB g.ae W B0 B1 B3 B4 B5 B7 B8 b:=λb hb=>.inl ⟨B4,by simp,hb⟩
 have i5:∀b,B5.z=ZD/\b=B5.b->GB g.ae W B0 B1 B3 B4 B5 B7 B8 b:=λb hb=>.inl ⟨B5,by simp,hb⟩
 have i7:∀b,B7.z=ZD/\b=B7.b->GB g.ae W B0 B1 B3 B4 B5 B7 B8 b:=λb hb=>.inl ⟨B7,by simp,hb⟩
 have i8:∀b,B8.z=ZD/\b=B8.b->GB g.ae W B0 B1 B3 B4 B5 B7 B8 b:=λb hb=>.inl ⟨B8,by simp,hb⟩
 have u0:=mA.of (zf w (.cells #[v0,v1,v2,v3,v4,v5,v6,v7,v8,v9] 33));have h0:=h.cx u0 λ_ _ h=>h
 have f3:=jF w #[v0,v1,v2,v3,v4,v5,v6,v7,v8,v9] 33 (j:=3) rfl;have f4:=jF w #[v0,v1,v2,v3,v4,v5,v6,v7,v8,v9] 33 (j:=4) rfl;have f5:=jF w #[v0,v1,v2,v3,v4,v5,v6,v7,v8,v9] 33 (j:=5) rfl;have f7:=jF w #[v0,v1,v2,v3,v4,v5,v6,v7,v8,v9] 33 (j:=7) rfl;have f8:=jF w #[v0,v1,v2,v3,v4,v5,v6,v7,v8,v9] 33 (j:=8) rfl;have hnb:∀b,GB g.ae W B0 B1 B3 B4 B5 B7 B8 b->b≠w.heap.size:=λb hb e=>by have:=GR b hb;omega
 -- the seven calls,each on RT the one before it left
 have c1:=Ko v0 v1 v2 e0 e1 g.aa k _ h0.r0 h0.r1 n01 hf.aB hf.off Db YG;have C1:=Lib.hid c1;have H0:=Lib.hid h0;have F3:=Lib.hid f3;have F4:=Lib.hid f4;have F5:=Lib.hid f5;have F7:=Lib.hid f7;have F8:=Lib.hid f8;have U0:=Lib.hid u0;have HB:=Lib.hid hnb;have UL:=Lib.hid BU;have HWW:=Lib.hid hww;have HF:=Lib.hid hf;have E3:=Lib.hid e3;have E4:=Lib.hid e4;have E5:=Lib.hid e5;have E7:=Lib.hid e7;have E8:=Lib.hid e8;have I3:=Lib.hid (Wt i0 (Wt i1 (Wt i3 (Wt i4 (Wt i5 (Wt i7 i8))))));clear c1 h0 f3 f4 f5 f7 f8 u0 hnb BU hww hf e0 e1 e3 e4 e5 e7 e8 i0 i1 i3 i4 i5 i7 i8 h GR
 go_enter func71,ntmps71
 go_wp2_with fail
 refine C1.out.mono ?_;rintro e w1 ⟨rfl,g0,g1,q1⟩;have no1:∀B:cL,Nk B0 B->Nk B1 B->B.z=ZD->¬((B0.z=ZD/\B.b=B0.b)\/(B1.z=ZD/\B.b=B1.b)):=λB n0 n1 hz h=>by
  rcases h with h|h
  ·exact n0 h.1 hz h.2.symm
  ·exact n1 h.1 hz h.2.symm
 have VA:¬((B0.z=ZD/\w.heap.size=B0.b)\/(B1.z=ZD/\w.heap.size=B1.b)):=λh=>by rcases h with h|h;exact HB.out _ (I3.out.1 _ h) rfl;exact HB.out _ (I3.out.2.1 _ h) rfl
 have d3:=bC q1 F3.out VA;have d4:=bC q1 F4.out VA;have d5:=bC q1 F5.out VA;have d7:=bC q1 F7.out VA;have d8:=bC q1 F8.out VA;have t1:=(U0.out.more (O':=GB g.ae W B0 B1 B3 B4 B5 B7 B8) (λ_ h=>h.elim)).trans (q1.more (O':=GB g.ae W B0 B1 B3 B4 B5 B7 B8) λb h=>by rcases h with h|h;exact I3.out.1 _ h;exact I3.out.2.1 _ h) λ_ _ h=>h
 have r3:=H0.out.r3.cx q1 (no1 B3 n03 n13);have r4:=H0.out.r4.cx q1 (no1 B4 n04 n14);have r5:=H0.out.r5.cx q1 (no1 B5 n05 n15);have r7:=H0.out.r7.cx q1 (no1 B7 n07 n17);have r8:=H0.out.r8.cx q1 (no1 B8 n08 n18);have rw_:∀j o,g.ae[j]?=ZA o->sy w1 o.aK (us j) (W j):=λj o ho=>(H0.out.aK j o ho).cx q1 λhz h=>by
  have hj:=(VH.1 ho).1
  rcases h with h|h
  ·exact UL.out j hj B0 YJ hz h.1 h.2
  ·exact UL.out j hj B1 YJ hz h.1 h.2
 have c2:=Zh5 (k:=Li g k) r3 rw_ HF.out.ae HF.out.aK a1 (by unfold Tk at a3;omega) (λj hj hz hz3=>UL.out j hj B3 YJ hz hz3) HWW.out
 rw[<-E3.out]at c2
 have C2:=Lib.hid c2;have G0:=Lib.hid g0;have G1:=Lib.hid g1;have R4:=Lib.hid r4;have R5:=Lib.hid r5;have R7:=Lib.hid r7;have R8:=Lib.hid r8;have T1:=Lib.hid t1;have D4:=Lib.hid d4;have D5:=Lib.hid d5;have D7:=Lib.hid d7;have D8:=Lib.hid d8;clear c2 g0 g1 r3 r4 r5 r7 r8 rw_ t1 q1 no1 VA d4 d5 d7 d8;rw[show k+6*(g.aa.aB.length:Int)+(g.aa.off.length:Int)=Li g k from rfl]
 go_wp2_with fail
 refine C2.out.mono ?_;rintro e w2 ⟨rfl,g3,gw,q2⟩;rw[show vn (Li g k) g.ae=Tk g k from rfl];have no2:∀B:cL,B∈[B0,B1,B3,B4,B5,B7,B8]->Nk B3 B->B.z=ZD->¬((B3.z=ZD/\B.b=B3.b)\/QW g.ae W B.b):=λB hB n3 hz h=>by
  rcases h with h|⟨j,hj,hzj,e⟩
  ·exact n3 h.1 hz h.2.symm
  ·exact UL.out j hj B hB hzj hz e.symm
 have nb2:¬((B3.z=ZD/\w.heap.size=B3.b)\/QW g.ae W w.heap.size):=λh=>by rcases h with h|h;exact HB.out _ (I3.out.2.2.1 _ h) rfl;exact HB.out _ (.inr h) rfl
 have n30:Nk B3 B0:=λa b e=>n03 b a e.symm
 have n31:Nk B3 B1:=λa b e=>n13 b a e.symm
 have d4:=bC q2 D4.out nb2;have d5:=bC q2 D5.out nb2;have d7:=bC q2 D7.out nb2;have d8:=bC q2 D8.out nb2;have t2:=T1.out.trans (q2.more (O':=GB g.ae W B0 B1 B3 B4 B5 B7 B8) λb h=>by rcases h with h|h;exact I3.out.2.2.1 _ h;exact .inr h) λ_ _ h=>h
 have g0:=G0.out.cx q2 (no2 B0 YJ n30);have g1:=G1.out.cx q2 (no2 B1 YJ n31);have r4:=R4.out.cx q2 (no2 B4 YJ n34);have r5:=R5.out.cx q2 (no2 B5 YJ n35);have r7:=R7.out.cx q2 (no2 B7 YJ n37);have r8:=R8.out.cx q2 (no2 B8 YJ n38);have c3:=M5 (k:=Tk g k) r4 HF.out.aq YG YG;rw[<-E4.out]at c3
 have C3:=Lib.hid c3;have GG:=Lib.hid (Wt g0 (Wt g1 (Wt g3 gw)));have RR:=Lib.hid (Wt r5 (Wt r7 r8));have T2:=Lib.hid t2;have D5':=Lib.hid d5;have D7':=Lib.hid d7;have D8':=Lib.hid d8;clear c3 g0 g1 g3 gw r4 r5 r7 r8 t2 q2 no2 nb2 d5 d7 d8 d3
 go_wp2_with fail
 refine C3.out.mono ?_;rintro e w3 ⟨rfl,g4,q3⟩;rw[show Tk g k+4*(g.aq.length:Int)=k3W g k from rfl];have Zh2:∀{j:Nat} {o:ay},(mkOr (Li g k) g.ae)[j]?=ZA o->j<g.ae.length:=λh=>by have:=(VH.1 h).1;rwa[vW]at this
 have hj4:Nk B4 B0/\Nk B4 B1/\Nk B4 B3:=⟨λa b e=>n04 b a e.symm,λa b e=>n14 b a e.symm,λa b e=>n34 b a e.symm⟩
 have no3:∀B:cL,Nk B4 B->B.z=ZD->¬(B4.z=ZD/\B.b=B4.b):=λB n hz h=>n h.1 hz h.2.symm
 have nb3:¬(B4.z=ZD/\w.heap.size=B4.b):=λh=>HB.out _ (I3.out.2.2.2.1 _ h) rfl
 have d5:=bC q3 D5'.out nb3;have d7:=bC q3 D7'.out nb3;have d8:=bC q3 D8'.out nb3;have t3:=T2.out.trans (q3.more (O':=GB g.ae W B0 B1 B3 B4 B5 B7 B8) λb h=>I3.out.2.2.2.1 _ h) λ_ _ h=>h
 have g0:=GG.out.1.cx q3 (no3 B0 hj4.1);have g1:=GG.out.2.1.cx q3 (no3 B1 hj4.2.1);have g3:=GG.out.2.2.1.cx q3 (no3 B3 hj4.2.2);have gw:∀j o,(mkOr (Li g k) g.ae)[j]?=ZA o->sy w3 o.aK (us j) (W j):=λj o ho=>(GG.out.2.2.2 j o ho).cx q3 λhz h=>UL.out j (Zh2 ho) B4 YJ hz h.1 h.2
 have r5:=RR.out.1.cx q3 (no3 B5 n45);have r7:=RR.out.2.1.cx q3 (no3 B7 n47);have r8:=RR.out.2.2.cx q3 (no3 B8 n48);have c4:=Zb8 (k:=k3W g k) r5 HF.out.ah YG YG;rw[<-E5.out]at c4
 have C4:=Lib.hid c4;have G4:=Lib.hid (Wt g0 (Wt g1 (Wt g3 (Wt gw g4))));have R4':=Lib.hid (Wt r7 r8);have T3:=Lib.hid t3;have D7a:=Lib.hid d7;have D8a:=Lib.hid d8;clear c4 g0 g1 g3 gw g4 r5 r7 r8 t3 q3 no3 nb3 d7 d8 d4 hj4
 go_wp2_with fail
 refine C4.out.mono ?_;rintro e w4 ⟨rfl,g5,q4⟩;rw[show k3W g k+2*(g.ah.length:Int)=k4W g k from rfl];have no4:∀B:cL,Nk B5 B->B.z=ZD->¬(B5.z=ZD/\B.b=B5.b):=λB n hz h=>n h.1 hz h.2.symm
 have nb4:¬(B5.z=ZD/\w.heap.size=B5.b):=λh=>HB.out _ (I3.out.2.2.2.2.1 _ h) rfl
 have d7:=bC q4 D7a.out nb4;have d8:=bC q4 D8a.out nb4;have t4:=T3.out.trans (q4.more (O':=GB g.ae W B0 B1 B3 B4 B5 B7 B8) λb h=>I3.out.2.2.2.2.1 _ h) λ_ _ h=>h
 have g0:=G4.out.1.cx q4 (no4 B0 λa b e=>n05 b a e.symm)
 have g1:=G4.out.2.1.cx q4 (no4 B1 λa b e=>n15 b a e.symm)
 have g3:=G4.out.2.2.1.cx q4 (no4 B3 λa b e=>n35 b a e.symm)
 have gw:∀j o,(mkOr (Li g k) g.ae)[j]?=ZA o->sy w4 o.aK (us j) (W j):=λj o ho=>(G4.out.2.2.2.1 j o ho).cx q4 λhz h=>UL.out j (Zh2 ho) B5 YJ hz h.1 h.2
 have g4:=G4.out.2.2.2.2.cx q4 (no4 B4 λa b e=>n45 b a e.symm)
 have r7:=R4'.out.1.cx q4 (no4 B7 n57);have r8:=R4'.out.2.cx q4 (no4 B8 n58);have c5:=Zb7 (k:=k4W g k) r7 HF.out.aJ YG YG;rw[<-E7.out]at c5
 have C5:=Lib.hid c5;have G5:=Lib.hid (Wt g0 (Wt g1 (Wt g3 (Wt gw (Wt g4 g5)))));have R5':=Lib.hid r8;have T4:=Lib.hid t4;have D8b:=Lib.hid d8;clear c5 g0 g1 g3 gw g4 g5 r7 r8 t4 q4 no4 nb4 d8 d5
 go_wp2_with fail
 refine C5.out.mono ?_;rintro e w5 ⟨rfl,g7,q5⟩;rw[show k4W g k+6*(g.aJ.length:Int)=k5W g k from rfl];have no5:∀B:cL,Nk B7 B->B.z=ZD->¬(B7.z=ZD/\B.b=B7.b):=λB n hz h=>n h.1 hz h.2.symm
 have nb5:¬(B7.z=ZD/\w.heap.size=B7.b):=λh=>HB.out _ (I3.out.2.2.2.2.2.1 _ h) rfl
 have d8:=bC q5 D8b.out nb5;have t5:=T4.out.trans (q5.more (O':=GB g.ae W B0 B1 B3 B4 B5 B7 B8) λb h=>I3.out.2.2.2.2.2.1 _ h) λ_ _ h=>h
 have g0:=G5.out.1.cx q5 (no5 B0 λa b e=>n07 b a e.symm)
 have g1:=G5.out.2.1.cx q5 (no5 B1 λa b e=>n17 b a e.symm)
 have g3:=G5.out.2.2.1.cx q5 (no5 B3 λa b e=>n37 b a e.symm)
 have gw:∀j o,(mkOr (Li g k) g.ae)[j]?=ZA o->sy w5 o.aK (us j) (W j):=λj o ho=>(G5.out.2.2.2.1 j o ho).cx q5 λhz h=>UL.out j (Zh2 ho) B7 YJ hz h.1 h.2
 have g4:=G5.out.2.2.2.2.1.cx q5 (no5 B4 λa b e=>n47 b a e.symm)
 have g5:=G5.out.2.2.2.2.2.cx q5 (no5 B5 λa b e=>n57 b a e.symm)
 have r8:=R5'.out.cx q5 (no5 B8 n78);have c6:=zB (k:=k5W g k) r8 HF.out.skip YG YG;rw[<-E8.out]at c6
 have C6:=Lib.hid c6;have G6:=Lib.hid (Wt g0 (Wt g1 (Wt g3 (Wt gw (Wt g4 (Wt g5 g7))))));have T5:=Lib.hid t5;clear c6 g0 g1 g3 gw g4 g5 g7 r8 t5 q5 no5 nb5 d7
 go_wp2_with fail
 refine C6.out.mono ?_;rintro e w6 ⟨rfl,g8,q6⟩;rw[show k5W g k+(g.skip.length:Int)=k6W g k from rfl];have no6:∀B:cL,Nk B8 B->B.z=ZD->¬(B8.z=ZD/\B.b=B8.b):=λB n hz h=>n h.1 hz h.2.symm
 have t6:=T5.out.trans (q6.more (O':=GB g.ae W B0 B1 B3 B4 B5 B7 B8) λb h=>I3.out.2.2.2.2.2.2 _ h) λ_ _ h=>h
 have fin:GW w6 (Sh g k) us W B0 B1 B3 B4 B5 B7 B8:=⟨G6.out.1.cx q6 (no6 B0 λa b e=>n08 b a e.symm),G6.out.2.1.cx q6 (no6 B1 λa b e=>n18 b a e.symm),G6.out.2.2.1.cx q6 (no6 B3 λa b e=>n38 b a e.symm),G6.out.2.2.2.2.1.cx q6 (no6 B4 λa b e=>n48 b a e.symm),G6.out.2.2.2.2.2.1.cx q6 (no6 B5 λa b e=>n58 b a e.symm),G6.out.2.2.2.2.2.2.cx q6 (no6 B7 λa b e=>n78 b a e.symm),g8,λj o ho=>(G6.out.2.2.2.1 j o ho).cx q6 λhz h=>UL.out j (Zh2 ho) B8 YJ hz h.1 h.2⟩
 have FIN:=Lib.hid fin;have T6:=Lib.hid t6;clear fin t6 g8 q6 no6 d8
 go_wp2_with fail
 go_ret
 exact⟨rfl,FIN.out,T6.out⟩
def kQ(a:List ZJ)(s0:Int×Int):Option ((Int×Int)⊕(Int⊕Int)):=
 cond (ZE (s0.2<(a.length:Int)))
 ((aA a s0.2).bind λy1=>
 cond (!decide (y1.kind=s0.1))
 (ZA (.inr (.inr (-1))))
 ((aA a s0.2).bind λy2=>
 cond (!decide (y2.av.label.ax=(aH (s0.1+1))))
 (ZA (.inr (.inr (-1))))
 ((aA a s0.2).bind λy3=>
 cond (!decide (y3.av.label.bZ=(aH ((aH (s0.1+1))+1))))
 (ZA (.inr (.inr (-1))))
 ((aA a s0.2).bind λy4=>
 (bg (aH ((aH ((aH (s0.1+1))+1))+1))).bind λy5=>
 cond (!decide (y4.av.label.aX=y5))
 (ZA (.inr (.inr (-1))))
 ((aA a s0.2).bind λy6=>
 (bg (aH ((aH ((aH ((aH (s0.1+1))+1))+1))+1))).bind λy7=>
 cond (!decide (y6.av.ar=y7))
 (ZA (.inr (.inr (-1))))
 ((aA a s0.2).bind λy8=>
 cond (!decide (y8.av.ab=(aH ((aH ((aH ((aH ((aH (s0.1+1))+1))+1))+1))+1))))
 (ZA (.inr (.inr (-1))))
 ((aA a s0.2).bind λy9=>
 (eG y9.av.bb (aH ((aH ((aH ((aH ((aH ((aH (s0.1+1))+1))+1))+1))+1))+1))).bind λeE=>
 cond (ZE (eE<0))
 (ZA (.inr (.inr (-1))))
 ((aA a s0.2).bind λoq=>
 cond (!decide (oq.av.value=eE))
 (ZA (.inr (.inr (-1))))
 ((aA a s0.2).bind λsj=>
 cond (!decide (sj.order=(aH (eE+1))))
 (ZA (.inr (.inr (-1))))
 ((aA a s0.2).bind λre=>
 cond (!decide (re.bh=(aH ((aH (eE+1))+1))))
 (ZA (.inr (.inr (-1))))
 ((aA a s0.2).bind λpx=>
 cond (!decide (px.bn=(aH ((aH ((aH (eE+1))+1))+1))))
 (ZA (.inr (.inr (-1))))
 ((aA a s0.2).bind λtl=>
 cond (!decide (tl.aV.bG=(aH ((aH ((aH ((aH (eE+1))+1))+1))+1))))
 (ZA (.inr (.inr (-1))))
 ((aA a s0.2).bind λsB=>
 cond (!decide (sB.aV.day=(aH ((aH ((aH ((aH ((aH (eE+1))+1))+1))+1))+1))))
 (ZA (.inr (.inr (-1))))
 (ZA (.inl ((aH ((aH ((aH ((aH ((aH ((aH (eE+1))+1))+1))+1))+1))+1)),(aH (s0.2+1))))))))))))))))))
 (ZA (.inr (.inl s0.1)))
instance (a:List ZJ):bj (kQ a):=⟨λs0=>(.sl (a.map ZK)::vi s0.1::(U 3 (vi s0.2::(U 138 [])))),λs0=>[]⟩
def lK(a:List ZJ)(k:Int):Option Int:=
 (aD (kQ a) NN (k,0)).bind (bm (λo0=>
 ZA o0) (λr=>ZA r))
instance (a:List ZJ)(k:Int):CT prog (lK a k):=⟨84,[.sl (a.map ZK),vi k],[],λr=>vi r,λr=>[],cw (lK.eq_1 ..) func84 ntmps84 results84⟩
def iG(a:List aM)(s0:Int×Int):Option ((Int×Int)⊕(Int⊕Int)):=
 cond (ZE (s0.2<(a.length:Int)))
 ((aA a s0.2).bind λy1=>
 cond (!decide (y1.label.ax=s0.1))
 (ZA (.inr (.inr (-1))))
 ((aA a s0.2).bind λy2=>
 cond (!decide (y2.label.bZ=(aH (s0.1+1))))
 (ZA (.inr (.inr (-1))))
 ((aA a s0.2).bind λy3=>
 (bg (aH ((aH (s0.1+1))+1))).bind λy4=>
 cond (!decide (y3.label.aX=y4))
 (ZA (.inr (.inr (-1))))
 ((aA a s0.2).bind λy5=>
 (bg (aH ((aH ((aH (s0.1+1))+1))+1))).bind λy6=>
 cond (!decide (y5.ar=y6))
 (ZA (.inr (.inr (-1))))
 ((aA a s0.2).bind λy7=>
 cond (!decide (y7.ab=(aH ((aH ((aH ((aH (s0.1+1))+1))+1))+1))))
 (ZA (.inr (.inr (-1))))
 ((aA a s0.2).bind λy8=>
 (eG y8.bb (aH ((aH ((aH ((aH ((aH (s0.1+1))+1))+1))+1))+1))).bind λy9=>
 cond (ZE (y9<0))
 (ZA (.inr (.inr (-1))))
 ((aA a s0.2).bind λeE=>
 cond (!decide (eE.value=y9))
 (ZA (.inr (.inr (-1))))
 (ZA (.inl ((aH (y9+1)),(aH (s0.2+1))))))))))))
 (ZA (.inr (.inl s0.1)))
instance (a:List aM):bj (iG a):=⟨λs0=>(.sl (a.map bq)::vi s0.1::(U 3 (vi s0.2::(U 75 [])))),λs0=>[]⟩
def iP(a:List aM)(k:Int):Option Int:=
 (aD (iG a) NN (k,0)).bind (bm (λo0=>
 ZA o0) (λr=>ZA r))
instance (a:List aM)(k:Int):CT prog (iP a k):=⟨82,[.sl (a.map bq),vi k],[],λr=>vi r,λr=>[],cw (iP.eq_1 ..) func82 ntmps82 results82⟩
def mAc(k:Int)(n:Nat):ZJ:=⟨k,⟨⟨k+1,k+2,bQ (k+3)⟩,bQ (k+4),k+5,zD (k+6) n,k+6+n⟩,k+7+n,k+8+n,k+9+n,⟨k+10+n,k+11+n⟩⟩
def tn(k:Int):List ZJ->Int
 | []=>k
 |o::os=>tn (k+12+(o.av.bb.length:Int)) os
def xP(k:Int):List ZJ->List ZJ
 | []=>[]
 |o::os=>mAc k o.av.bb.length::xP (k+12+(o.av.bb.length:Int)) os
theorem Jg(k:Int)(os:List ZJ):k<=tn k os:=by
 induction os generalizing k with
 |nil=>exact Wp _
 |cons o os ih=>have:=ih (k+12+(o.av.bb.length:Int));unfold tn;omega
theorem Qj(k:Int)(os:List ZJ)(o:ZJ):tn k (os++[o])=tn k os+12+(o.av.bb.length:Int):=by
 induction os generalizing k with
 |nil=>rfl
 |cons x os ih=>simp only[W7,tn];exact ih _
theorem Zib(k:Int)(xs ys:List ZJ):tn k (xs++ys)=tn (tn k xs) ys:=by
 induction xs generalizing k with
 |nil=>rfl
 |cons x os ih=>simp only[W7,tn];exact ih _
theorem Qk(k:Int)(os:List ZJ)(i:Nat):tn k (os.take i)<=tn k os:=by
 have:=Zib k (os.take i) (os.drop i);rw[Xs]at this
 rw[this];exact Jg _ _
theorem uH(k:Int)(os:List ZJ):(xP k os).length=os.length:=by
 induction os generalizing k with
 |nil=>rfl
 |cons o os ih=>simp only[xP,VL,ih]
theorem Jc(k:Int)(os:List ZJ)(i:Nat):(xP k os)[i]?=(os[i]?).map λo=>mAc (tn k (os.take i)) o.av.bb.length:=by
 induction os generalizing k i with
 |nil=>simp[xP]
 |cons o os ih=>
  cases i with
  |zero=>simp[xP,tn]
  |succ i=>simp only[xP,XC,ih,XS,tn]
theorem PD(os:List ZJ)(k:Int)(hn:os.length<=1048576)(hw:∀o∈os,o.av.bb.length<=1048576)(h0:1<=k)(h1:tn k os<=1000000000):lK (xP k os) k=ZA (tn k os):=by
 unfold lK;have e0:(k,0)=(λi:Nat=>((tn k (os.take i),(i:Int)):Int×Int)) 0:=by simp[tn]
 have hh:aD (kQ (xP k os)) NN ((λi:Nat=>(tn k (os.take i),(i:Int))) 0)=ZA (W6 (tn k os)):=by
  refine j4 (λi:Nat=>(tn k (os.take i),(i:Int))) (n:=os.length) ?_ ?_ NN YI
  ·intro i hi
   have hx:os[i]?=ZA os[i]:=VF hi;have hm:os[i]∈os:=Wd hi;have PO:=hw _ hm;have vl:tn k (os.take (i+1))=tn k (os.take i)+12+(os[i].av.bb.length:Int):=by rw[WY,hx];exact Qj _ _ _
   have IW:1<=tn k (os.take i):=WM h0 (Jg _ _);have Ey:tn k (os.take (i+1))<=1000000000:=WM (Qk _ _ _) h1;have hg:aA (xP k os) (i:Int)=ZA (mAc (tn k (os.take i)) os[i].av.bb.length):=by rw[aQ,Jc,hx];rfl
   have d1:ZE ((i:Int)<((xP k os).length:Int))=true:=Yp (by rw[uH];omega)
   rw[vl]at Ey⊢
   generalize tn k (os.take i)=q at *
   generalize os[i].av.bb.length=n at *
   generalize xP k os=L at *
   have w1:aH (q+1)=q+1:=aL YG;have w2:aH (q+1+1)=q+2:=by rw[aL YG];omega
   have w3:aH (q+2+1)=q+3:=by rw[aL YG];omega
   have w4:aH (q+3+1)=q+4:=by rw[aL YG];omega
   have w5:aH (q+4+1)=q+5:=by rw[aL YG];omega
   have w6:aH (q+5+1)=q+6:=by rw[aL YG];omega
   have w7:aH (q+6+(n:Int)+1)=q+7+n:=by rw[aL YG];omega
   have w8:aH (q+7+(n:Int)+1)=q+8+n:=by rw[aL YG];omega
   have w9:aH (q+8+(n:Int)+1)=q+9+n:=by rw[aL YG];omega
   have w10:aH (q+9+(n:Int)+1)=q+10+n:=by rw[aL YG];omega
   have w11:aH (q+10+(n:Int)+1)=q+11+n:=by rw[aL YG];omega
   have w12:aH (q+11+(n:Int)+1)=q+12+n:=by rw[aL YG];omega
   have hT:=uA (q+6) n PO YG YG;have wi:aH ((i:Int)+1)=((i+1:Nat):Int):=by rw[aL YG];omega
   have t3:bg (q+3)=ZA (bQ (q+3)):=jA YG;have t4:bg (q+4)=ZA (bQ (q+4)):=jA YG;have dn:ZE (q+6+(n:Int)<0)=false:=Yz YG;simp only[kQ,d1,YC,hg,VE,mAc,w1,w2,w3,w4,w5,w6,w7,w8,w9,w10,w11,w12,t3,t4,hT,dn,wi,decide_true,VK,YD]
  ·have d1:ZE ((os.length:Int)<((xP k os).length:Int))=false:=Yz (by rw[uH];omega)
   simp only[kQ,d1,YD,WA]
 rw[e0,hh];rfl
def mPc(k:Int)(n:Nat):aM:=⟨⟨k,k+1,bQ (k+2)⟩,bQ (k+3),k+4,zD (k+5) n,k+5+n⟩
def vo(k:Int):List aM->Int
 | []=>k
 |o::os=>vo (k+6+(o.bb.length:Int)) os
def xQ(k:Int):List aM->List aM
 | []=>[]
 |o::os=>mPc k o.bb.length::xQ (k+6+(o.bb.length:Int)) os
theorem Nj(k:Int)(os:List aM):k<=vo k os:=by
 induction os generalizing k with
 |nil=>exact Wp _
 |cons o os ih=>have:=ih (k+6+(o.bb.length:Int));unfold vo;omega
theorem Qn(k:Int)(os:List aM)(o:aM):vo k (os++[o])=vo k os+6+(o.bb.length:Int):=by
 induction os generalizing k with
 |nil=>rfl
 |cons x os ih=>simp only[W7,vo];exact ih _
theorem Zid(k:Int)(xs ys:List aM):vo k (xs++ys)=vo (vo k xs) ys:=by
 induction xs generalizing k with
 |nil=>rfl
 |cons x os ih=>simp only[W7,vo];exact ih _
theorem Qo(k:Int)(os:List aM)(i:Nat):vo k (os.take i)<=vo k os:=by
 have:=Zid k (os.take i) (os.drop i);rw[Xs]at this
 rw[this];exact Nj _ _
theorem uJ(k:Int)(os:List aM):(xQ k os).length=os.length:=by
 induction os generalizing k with
 |nil=>rfl
 |cons o os ih=>simp only[xQ,VL,ih]
theorem Je(k:Int)(os:List aM)(i:Nat):(xQ k os)[i]?=(os[i]?).map λo=>mPc (vo k (os.take i)) o.bb.length:=by
 induction os generalizing k i with
 |nil=>simp[xQ]
 |cons o os ih=>
  cases i with
  |zero=>simp[xQ,vo]
  |succ i=>simp only[xQ,XC,ih,XS,vo]
theorem IL(os:List aM)(k:Int)(hn:os.length<=1048576)(hw:∀o∈os,o.bb.length<=1048576)(h0:1<=k)(h1:vo k os<=1000000000):iP (xQ k os) k=ZA (vo k os):=by
 unfold iP;have e0:(k,0)=(λi:Nat=>((vo k (os.take i),(i:Int)):Int×Int)) 0:=by simp[vo]
 have hh:aD (iG (xQ k os)) NN ((λi:Nat=>(vo k (os.take i),(i:Int))) 0)=ZA (W6 (vo k os)):=by
  refine j4 (λi:Nat=>(vo k (os.take i),(i:Int))) (n:=os.length) ?_ ?_ NN YI
  ·intro i hi
   have hx:os[i]?=ZA os[i]:=VF hi;have hm:os[i]∈os:=Wd hi;have PO:=hw _ hm;have vl:vo k (os.take (i+1))=vo k (os.take i)+6+(os[i].bb.length:Int):=by rw[WY,hx];exact Qn _ _ _
   have IW:1<=vo k (os.take i):=WM h0 (Nj _ _);have Ey:vo k (os.take (i+1))<=1000000000:=WM (Qo _ _ _) h1;have hg:aA (xQ k os) (i:Int)=ZA (mPc (vo k (os.take i)) os[i].bb.length):=by rw[aQ,Je,hx];rfl
   have d1:ZE ((i:Int)<((xQ k os).length:Int))=true:=Yp (by rw[uJ];omega)
   rw[vl]at Ey⊢
   generalize vo k (os.take i)=q at *
   generalize os[i].bb.length=n at *
   generalize xQ k os=L at *
   have w1:aH (q+1)=q+1:=aL YG;have w2:aH (q+1+1)=q+2:=by rw[aL YG];omega
   have w3:aH (q+2+1)=q+3:=by rw[aL YG];omega
   have w4:aH (q+3+1)=q+4:=by rw[aL YG];omega
   have w5:aH (q+4+1)=q+5:=by rw[aL YG];omega
   have w6:aH (q+5+(n:Int)+1)=q+6+n:=by rw[aL YG];omega
   have hT:=uA (q+5) n PO YG YG;have wi:aH ((i:Int)+1)=((i+1:Nat):Int):=by rw[aL YG];omega
   have t2:bg (q+2)=ZA (bQ (q+2)):=jA YG;have t3:bg (q+3)=ZA (bQ (q+3)):=jA YG;have dn:ZE (q+5+(n:Int)<0)=false:=Yz YG;simp only[iG,d1,YC,hg,VE,mPc,w1,w2,w3,w4,w5,w6,t2,t3,hT,dn,wi,decide_true,VK,YD]
  ·have d1:ZE ((os.length:Int)<((xQ k os).length:Int))=false:=Yz (by rw[uJ];omega)
   simp only[iG,d1,YD,WA]
 rw[e0,hh];rfl
set_option maxRecDepth 100000
structure NX(T:TypeId)(w a:World)(g n:Nat)(P:Nat->Option Value)(Q:Nat->Prop):Prop where
 os:a.os=w.os
 tape:a.tape=w.tape
 output:a.output=w.output
 size:w.heap.size<=a.heap.size
 row:∃c:Array Value,a.heap[g]?=ZA (.cells c T (0,0))/\c.size=n/\∀o v,P o=ZA v->c[o]?=ZA v
 tq:∀b,b<w.heap.size->b≠g->¬Q b->a.heap[b]?=w.heap[b]?
section
variable {T:TypeId} {w a b:World} {g n:Nat} {P P':Nat->Option Value} {Q:Nat->Prop}
theorem NX.lt(h:NX T w a g n P Q):g<a.heap.size:=by obtain⟨c,h1,_⟩:=h.row;exact(VQ.1 h1).1
theorem NX.start(h:∃c:Array Value,w.heap[g]?=ZA (.cells c T (0,0))/\c.size=n/\∀o v,P o=ZA v->c[o]?=ZA v):NX T w w g n P Q:=⟨rfl,rfl,rfl,VJ _,h,λ_ _ _ _=>rfl⟩
theorem NX.set(h:NX T w a g n P Q)(o:Nat)(v:Value)(ho:o<n):NX T w (a.setCell ⟨g,o,ZB⟩ v) g n (λx=>if x=o then ZA v else P x) Q:=by
 obtain⟨c,h1,h2,h3⟩:=h.row;refine⟨h.os,h.tape,h.output,by rw[World.size_setCell];exact h.size,⟨_,heap_setCell_same a g o c _ v h1,by simpa using h2,λx u hx=>?_⟩,λx hx hg hq=>(heap_setCell_other a ⟨g,o,ZB⟩ x v hg).trans (h.tq x hx hg hq)⟩
 by_cases e:x=o
 ·subst e
  simp only[if_true]at hx
  rw[XI YG];exact hx
 ·simp only[e,if_false]at hx
  rw[Xo (XA e)];exact h3 x u hx
theorem NX.up(h:NX T w a g n P Q)(k:Up a b):NX T w b g n P Q:=by
 obtain⟨c,h1,h2,h3⟩:=h.row;exact⟨k.os.trans h.os,k.tape.trans h.tape,k.output.trans h.output,Wb h.size k.size,⟨c,(k.block g h.lt).trans h1,h2,h3⟩,λx hx hg hq=>(k.block x (V4 hx h.size)).trans (h.tq x hx hg hq)⟩
theorem NX.upO(h:NX T w a g n P Q)(k:mA O a b)(hO:∀x,O x->x≠g/\Q x):NX T w b g n P Q:=by
 obtain⟨c,h1,h2,h3⟩:=h.row;exact⟨k.os.trans h.os,k.tape.trans h.tape,k.output.trans h.output,Wb h.size k.size,⟨c,(k.block g h.lt λho=>(hO g ho).1 rfl).trans h1,h2,h3⟩,λx hx hg hq=>(k.block x (V4 hx h.size) λho=>hq (hO x ho).2).trans (h.tq x hx hg hq)⟩
theorem NX.UH(h:NX T w a g n P Q)(hP:∀o v,P' o=ZA v->P o=ZA v):NX T w a g n P' Q:=by
 obtain⟨c,h1,h2,h3⟩:=h.row;exact⟨h.os,h.tape,h.output,h.size,⟨c,h1,h2,λo v ho=>h3 o v (hP o v ho)⟩,h.tq⟩
theorem NX.more(h:NX T w a g n P Q)(hQ:∀x,Q x->Q' x):NX T w a g n P Q':=⟨h.os,h.tape,h.output,h.size,h.row,λx hx hg hq=>h.tq x hx hg λh'=>hq (hQ x h')⟩
theorem NX.trans(h:NX T w a g n P Q){Q':Nat->Prop}(k:NX T a b g n P' Q')(hQ:∀x,Q' x->Q x):NX T w b g n P' Q:=
 ⟨k.os.trans h.os,k.tape.trans h.tape,k.output.trans h.output,Wb h.size k.size,k.row,λx hx hg hq=>(k.tq x (V4 hx h.size) hg λh'=>hq (hQ x h')).trans (h.tq x hx hg hq)⟩
theorem NX.cell(h:NX T w a g n P Q){o:Nat}(hP:P o=ZA v):a.cell? ⟨g,o,ZB⟩=ZA v:=by
 obtain⟨c,h1,h2,h3⟩:=h.row;rw[cell_of_row a g o c _ (0,0) h1];exact h3 o v hP
theorem NX.any(h:NX T w a g n P Q){o:Nat}(ho:o<n):(∃u,a.cell? ⟨g,o,ZB⟩=ZA u)/\a.frozen? ⟨g,o,ZB⟩=false:=by
 obtain⟨c,h1,h2,h3⟩:=h.row;exact⟨⟨c[o]' YG,by rw[cell_of_row a g o c _ (0,0) h1];exact VU _⟩,frozen_of_row a g o c _ h1⟩
end
def E9(w:World)(xs:List Int)(u:Value)(B:cL):Prop:=
 (xs=[]/\B.z=ZC/\∃A c,u=.slice A 0 c)\/(B.z=ZD/\u=B.sv/\RB w 3 1 (xs.map aI) B)
theorem E9.vm{w a:World}{xs:List Int}(h:E9 w xs u B)(hh:B.z=ZD->a.heap[B.b]?=w.heap[B.b]?):E9 a xs u B:=by
 rcases h with h|⟨h1,h2,h3⟩
 ·exact .inl h
 ·exact .inr ⟨h1,h2,h3.Ze7 hh⟩
theorem E9.one{w:World}{xs:List Int}(h:E9 w xs u B):∃A c,u=.slice A xs.length c:=by
 rcases h with⟨rfl,_,A,c,rfl⟩ |⟨h1,rfl,h3⟩
 ·exact⟨A,c,rfl⟩
 ·refine⟨ZA ⟨B.b,0,ZB⟩,B.c,?_⟩
  have:=h3.n;simp only[VX]at this
  simp[cL.sv,h1,this]
theorem E9.lt{a:World}{xs:List Int}{u:Value}{B:cL}(h:E9 a xs u B)(hz:B.z=ZD):B.b<a.heap.size:=by
 rcases h with⟨_,h2,_⟩ |⟨_,_,hb⟩
 ·rw[hz]at h2;cases h2
 ·exact RB.lt hb hz
theorem Tt(A:Option Addr)(c:Nat)(k:Int)(w:World):Calls prog 74 #[.slice A 0 c,ZF ZG k] w λe w'=>e=.returned (ZF ZG k)/\w'=w:=by
 go_enter func74,ntmps74
 go_wp2
 go_loopw [5,1] (λi kk wr=>i=ZF ZG 0/\kk=ZF ZG k/\wr=w) (λ_ _ _=>0)
 case atStart=>exact⟨rfl,rfl,rfl⟩
 case round=>
  obtain⟨rfl,rfl,rfl⟩:=hrel
  go_wp2
  go_ret
  exact⟨rfl,rfl⟩
theorem Zfn{w:World}{xs:List Int}(h:E9 w xs u B)(hn:xs.length<=1048576)(k0:1<=k)(k1:k<=1000000000):
 Calls prog 74 #[u,ZF ZG k] w λe w'=>e=.returned (ZF ZG (k+(xs.length:Int)))/\E9 w' (zD k xs.length) u B/\mA (λb=>B.z=ZD/\b=B.b) w w':=by
 rcases h with⟨rfl,hz,A,c,rfl⟩ |⟨hz,rfl,hb⟩
 ·refine(Tt A c k w).mono ?_
  rintro e w' ⟨rfl,rfl⟩;exact⟨by simp,.inl ⟨rfl,hz,A,c,rfl⟩,mA.refl _ _⟩
 ·refine(zB hb hn k0 k1).mono ?_
  rintro e w' ⟨rfl,h2,h3⟩;exact⟨rfl,.inr ⟨hz,rfl,h2⟩,h3⟩
def mvA(q:Int)(n:Nat):Nat->Option Value
 |0=>ZA (ZF ZG q)
 |1=>ZA (ZF ZG (q+1))
 |2=>ZA (ZF ZG (q+1+1))
 |3=>ZA (.string (bQ (q+1+1+1)))
 |4=>ZA (.string (bQ (q+1+1+1+1)))
 |5=>ZA (ZF ZG (q+1+1+1+1+1))
 |7=>ZA (ZF ZG (q+1+1+1+1+1+1+(n:Int)))
 |8=>ZA (ZF ZG (q+1+1+1+1+1+1+(n:Int)+1))
 |9=>ZA (ZF ZG (q+1+1+1+1+1+1+(n:Int)+1+1))
 |10=>ZA (ZF ZG (q+1+1+1+1+1+1+(n:Int)+1+1+1))
 |11=>ZA (ZF ZG (q+1+1+1+1+1+1+(n:Int)+1+1+1+1))
 |12=>ZA (ZF ZG (q+1+1+1+1+1+1+(n:Int)+1+1+1+1+1))
 |_=>ZB
def slA(os:List ZJ)(j:Nat):Nat:=match os[j]? with
 |some o=>o.av.bb.length
 |none=>0
def PPA(os:List ZJ)(us:Nat->Value)(k:Int)(j:Nat)(o:Nat):Option Value:=
 if o / 13<os.length then(if o % 13=6 then ZA (us (o / 13))else if o / 13<j then mvA (tn k (os.take (o / 13))) (slA os (o / 13)) (o % 13)else ZB)else ZB
def QSA(os:List ZJ)(W:Nat->cL)(b:Nat):Prop:=∃j,j<os.length/\(W j).z=ZD/\b=(W j).b
structure MIA(os:List ZJ)(us:Nat->Value)(W:Nat->cL)(k:Int)(g N:Nat)(w:World)(j:Nat)(a:World):Prop where
 mx:NX 48 w a g N (PPA os us k j) (QSA os W)
 done:∀i,i<j->∀o,os[i]?=ZA o->E9 a (zD (tn k (os.take i)+6) o.av.bb.length) (us i) (W i)
 rest:∀i,j<=i->∀o,os[i]?=ZA o->E9 a o.av.bb (us i) (W i)
theorem Zax{o:ZJ}(h:os[j]?=ZA o):slA os j=o.av.bb.length:=by simp[slA,h]
theorem Zdh{act:ZJ}(hj:os[j]?=ZA act)(hq:q=tn k (os.take j)){n:Nat}(hn:n=act.av.bb.length)(o:Nat)(v:Value)(h:PPA os us k (j+1) o=ZA v):
 (if o=j*13+12 then ZA (ZF ZG (q+1+1+1+1+1+1+(n:Int)+1+1+1+1+1))else if o=j*13+11 then ZA (ZF ZG (q+1+1+1+1+1+1+(n:Int)+1+1+1+1))else if o=j*13+10 then ZA (ZF ZG (q+1+1+1+1+1+1+(n:Int)+1+1+1))else if o=j*13+9 then ZA (ZF ZG (q+1+1+1+1+1+1+(n:Int)+1+1))else if o=j*13+8 then ZA (ZF ZG (q+1+1+1+1+1+1+(n:Int)+1))else if o=j*13+7 then ZA (ZF ZG (q+1+1+1+1+1+1+(n:Int)))else if o=j*13+5 then ZA (ZF ZG (q+1+1+1+1+1))else if o=j*13+4 then ZA (.string (bQ (q+1+1+1+1)))else if o=j*13+3 then ZA (.string (bQ (q+1+1+1)))else if o=j*13+2 then ZA (ZF ZG (q+1+1))else if o=j*13+1 then ZA (ZF ZG (q+1))else if o=j*13 then ZA (ZF ZG q)else PPA os us k j o)=ZA v:=by
 have bO:j<os.length:=(VH.1 hj).1
 by_cases hd:o / 13=j
 ·have h6:o=j*13+o % 13:=YG
  unfold PPA at h⊢
  rw[hd,if_pos bO]at h
  have hm:o % 13<13:=XM _ YG
  by_cases c6:o % 13=6
  ·rw[if_pos c6]at h
   rw[if_neg YG,if_neg YG,if_neg YG,if_neg YG,if_neg YG,if_neg YG,if_neg YG,if_neg YG,if_neg YG,if_neg YG,if_neg YG,if_neg YG,hd,if_pos bO,if_pos c6];exact h
  ·rw[if_neg c6,if_pos YG,Zax hj,<-hn,<-hq]at h
   rw[hd,if_pos bO,if_neg c6,if_neg (XW j)];have:o % 13=0\/o % 13=1\/o % 13=2\/o % 13=3\/o % 13=4\/o % 13=5\/o % 13=7\/o % 13=8\/o % 13=9\/o % 13=10\/o % 13=11\/o % 13=12:=YG
   rcases this with e|e|e|e|e|e|e|e|e|e|e|e<;>rw[e]at h h6<;>simp only[mvA]at h<;>rw[h6]<;>simp<;>simpa using h
 ·have ho:PPA os us k j o=ZA v:=by
   unfold PPA at h⊢
   split at h
   ·rename_i h1
    rw[if_pos h1]
    split at h
    ·rename_i h2;rw[if_pos h2];exact h
    ·rename_i h2
     rw[if_neg h2]
     split at h
     ·rename_i h3;rw[if_pos YG];exact h
     ·cases h
   ·cases h
  rw[if_neg YG,if_neg YG,if_neg YG,if_neg YG,if_neg YG,if_neg YG,if_neg YG,if_neg YG,if_neg YG,if_neg YG,if_neg YG,if_neg YG];exact ho
theorem Tr(os:List ZJ)(us:Nat->Value)(W:Nat->cL)(k:Int)(g c N:Nat)(hN:os.length*13<=N)(w:World)(hs:MIA os us W k g N w 0 w)(hn:os.length<=1048576)(hw:∀o∈os,o.av.bb.length<=1048576)(h0:1<=k)(h1:tn k os<=1000000000)
 (hg:∀j,j<os.length->(W j).z=ZD->(W j).b≠g) (hd:∀i j,i<os.length->j<os.length->(W i).z=ZD->(W j).z=ZD->(W i).b=(W j).b->i=j):
 Calls prog 25 #[.slice (ZA ⟨g,0,ZB⟩) os.length c,ZF ZG k] w λe w'=>e=.returned (ZF ZG (tn k os))/\MIA os us W k g N w os.length w':=by
 have HG:=Lib.hid hg;have HD:=Lib.hid hd;have HW:=Lib.hid hw;have H1:=Lib.hid h1;clear hg hd hw h1
 go_enter func25,ntmps25
 go_wp2
 go_loopw [5,1] (λi kk wr=>∃j:Nat,j<=os.length/\i=ZF ZG j/\kk=ZF ZG (tn k (os.take j))/\MIA os us W k g N w j wr) (λi _ _=>os.length-(intOf i).toNat)
 case atStart=>exact⟨0,YG,rfl,rfl,hs⟩
 case round=>
  obtain⟨j,hj,rfl,rfl,hM⟩:=hrel
  by_cases bO:j<os.length
  ·obtain⟨ord,ho⟩:∃o,os[j]?=ZA o:=⟨_,VF bO⟩
   have vl:tn k (os.take (j+1))=tn k (os.take j)+12+(ord.av.bb.length:Int):=by rw[WY,ho];exact Qj _ _ _
   have IW:1<=tn k (os.take j):=WM h0 (Jg _ _);have Ey:tn k (os.take (j+1))<=1000000000:=WM (Qk _ _ _) H1.out;have PO:=HW.out ord (VI ho);have BS:=hM.rest j (VJ j) ord ho;obtain⟨A6,c6,hu6⟩:=BS.one;have HST:=Lib.hid (fun(o:Nat) (v:Value)=>Zdh (os:=os) (us:=us) (k:=k) ho rfl rfl o v)
   have HQ:=Lib.hid vl;have HO:=Lib.hid ho;have HMI:=Lib.hid hM;have X0:NX 48 wr wr g N (PPA os us k j) (λ_=>False):=NX.start hM.mx.row
   have p6:PPA os us k j (j*13+6)=ZA (us j):=by
    unfold PPA;rw[show(j*13+6) / 13=j by omega,if_pos bO,if_pos YG]
   rw[vl]at Ey
   clear vl ho hM hs;generalize hqq:tn k (os.take j)=q at *
   generalize MO:ord.av.bb.length=n at *
   have HE:=Lib.hid hqq;clear hqq;obtain⟨⟨u0,d0⟩,f0⟩:=X0.any (o:=j*13) YG;obtain⟨⟨u1,d1⟩,f1⟩:=X0.any (o:=j*13+1) YG;obtain⟨⟨u2,d2⟩,f2⟩:=X0.any (o:=j*13+2) YG;have X0h:=Lib.hid X0;have HP:=Lib.hid p6;have HWy:=Lib.hid BS;have HU:=Lib.hid hu6;clear X0 p6 BS hu6
   go_wp2_with fail
   refine(jx _ _ YG YG).mono ?_;rintro e w1 ⟨rfl,uQ⟩;have X1:=(((X0h.out.set (j*13) (ZF ZG q) YG).set (j*13+1) (ZF ZG (q+1)) YG).set (j*13+2) (ZF ZG (q+1+1)) YG).up uQ;clear uQ d0 f0 d1 f1 d2 f2;obtain⟨⟨u3,d3⟩,f3⟩:=X1.any (o:=j*13+3) YG;have X1h:=Lib.hid X1;clear X1
   go_wp2_with fail
   refine(jx _ _ YG YG).mono ?_;rintro e w2 ⟨rfl,xj⟩;have X2:=(X1h.out.set (j*13+3) (.string (bQ (q+1+1+1))) YG).up xj;clear xj d3 f3;obtain⟨⟨u4,d4⟩,f4⟩:=X2.any (o:=j*13+4) YG;obtain⟨⟨u5,d5⟩,f5⟩:=X2.any (o:=j*13+5) YG;have dJ:w2.cell? ⟨g,j*13+6,ZB⟩=ZA (us j):=X2.cell (by simp only[if_neg (show ¬j*13+6=j*13+3 by omega),if_neg (show ¬j*13+6=j*13+2 by omega),if_neg (show ¬j*13+6=j*13+1 by omega),if_neg (show ¬j*13+6=j*13 by omega)];exact HP.out)
   rw[HU.out]at dJ
   have X2h:=Lib.hid X2;clear X2
   go_wp2_with fail
   have Xc:=((X2h.out.set (j*13+4) (.string (bQ (q+1+1+1+1))) YG).set (j*13+5) (ZF ZG (q+1+1+1+1+1)) YG);have hwc:=HWy.out.vm λhz=>Xc.tq _ (HWy.out.lt hz) (HG.out j bO hz) (λh=>h)
   have xG:=Zfn hwc YG (k:=q+1+1+1+1+1+1) YG YG;rw[HU.out,MO]at xG
   have HCA:=Lib.hid xG;have XcH:=Lib.hid Xc;clear xG hwc Xc;refine HCA.out.mono ?_;rintro e w3 ⟨rfl,Fw,Oe⟩;have X3:=(XcH.out.more (Q':=λb=>(W j).z=ZD/\b=(W j).b) (λ_ h=>h.elim)).upO Oe (λx hx=>⟨by rw[hx.2];exact HG.out j bO hx.1,hx⟩)
   clear d4 f4 d5 f5 dJ;obtain⟨⟨u7,d7⟩,f7⟩:=X3.any (o:=j*13+7) YG;obtain⟨⟨u8,d8⟩,f8⟩:=X3.any (o:=j*13+8) YG;obtain⟨⟨u9,d9⟩,f9⟩:=X3.any (o:=j*13+9) YG;obtain⟨⟨u10,d10⟩,f10⟩:=X3.any (o:=j*13+10) YG;obtain⟨⟨u11,d11⟩,f11⟩:=X3.any (o:=j*13+11) YG;obtain⟨⟨u12,d12⟩,f12⟩:=X3.any (o:=j*13+12) YG;have X3h:=Lib.hid X3;have HW3:=Lib.hid Fw;clear X3 Fw Oe
   go_wp2_with fail
   have X5:=((((((X3h.out.set (j*13+7) (ZF ZG (q+1+1+1+1+1+1+(n:Int))) YG).set (j*13+8) (ZF ZG (q+1+1+1+1+1+1+(n:Int)+1)) YG).set (j*13+9) (ZF ZG (q+1+1+1+1+1+1+(n:Int)+1+1)) YG).set (j*13+10) (ZF ZG (q+1+1+1+1+1+1+(n:Int)+1+1+1)) YG).set (j*13+11) (ZF ZG (q+1+1+1+1+1+1+(n:Int)+1+1+1+1)) YG).set (j*13+12) (ZF ZG (q+1+1+1+1+1+1+(n:Int)+1+1+1+1+1)) YG);have hlen:∀{i:Nat} {o:ZJ},os[i]?=ZA o->i<os.length:=λh=>(VH.1 h).1
   have vm:∀{i:Nat} {xs:List Int} {u:Value},i<os.length->i≠j->E9 wr xs u (W i)->E9 _ xs u (W i):=λ{i xs u} hi dX h=>
    h.vm λhz=>X5.tq _ (h.lt hz) (HG.out i hi hz) λhh=>dX (HD.out i j hi bO hz hh.1 hh.2)
   refine⟨⟨j+1,YG,by go_num,by rw[HQ.out];congr 1;omega,⟨(HMI.out.mx.trans X5 λx hx=>⟨j,bO,hx.1,hx.2⟩).UH HST.out,λi hi o Bs=>?_,λi hi o Bs=>?_⟩⟩,by simp[intOf];omega⟩
   ·rcases Wg i j with h|h
    ·exact vm (hlen Bs) YG (HMI.out.done i h o Bs)
    ·obtain rfl:i=j:=YG
     have e:ord=o:=by have:=HO.out;rw[Bs]at this;exact(VG this).symm
     subst e;rw[MO,HU.out];have h3:=HW3.out;rw[show q+1+1+1+1+1+1=tn k (os.take i)+6 by rw[HE.out];omega]at h3
     refine h3.vm λhz=>?_
     have dX:=HG.out i bO hz;rw[heap_setCell_other _ _ _ _ dX,heap_setCell_other _ _ _ _ dX,heap_setCell_other _ _ _ _ dX,heap_setCell_other _ _ _ _ dX,heap_setCell_other _ _ _ _ dX,heap_setCell_other _ _ _ _ dX]
   ·exact vm (hlen Bs) YG (HMI.out.rest i YG o Bs)
  ·obtain rfl:j=os.length:=YG
   have HT2:=Lib.hid (show tn k (os.take os.length)=tn k os by rw[WA])
   go_wp2_with fail
   go_ret
   exact⟨Zlp (by rw[HT2.out]),hM⟩
def cAU(a:ZJ)(u:Value):List PV:=[vi a.kind,vi a.av.label.ax,vi a.av.label.bZ,vs a.av.label.aX,vs a.av.ar,vi a.av.ab,.v u,vi a.av.value,vi a.order,vi a.bh,vi a.bn,vi a.aV.bG,vi a.aV.day]
def Rc(os:List ZJ)(us:Nat->Value):List (List PV):=os.mapIdx λj o=>cAU o (us j)
theorem DK(h:(Rc os us)[i]?=ZA cs):∃o,os[i]?=ZA o/\cs=cAU o (us i):=by
 unfold Rc at h
 rw[WW]at h
 obtain⟨o,h1,rfl⟩:=VT.1 h;exact⟨o,h1,rfl⟩
theorem NU{o:ZJ}(h:os[i]?=ZA o):(Rc os us)[i]?=ZA (cAU o (us i)):=by
 unfold Rc;rw[WW,h];rfl
theorem zR:(Rc os us).length=os.length:=by simp[Rc]
theorem Tq(A:Option Addr)(c:Nat)(k:Int)(w:World):Calls prog 25 #[.slice A 0 c,ZF ZG k] w λe w'=>e=.returned (ZF ZG k)/\w'=w:=by
 go_enter func25,ntmps25
 go_wp2
 go_loopw [5,1] (λi kk wr=>i=ZF ZG 0/\kk=ZF ZG k/\wr=w) (λ_ _ _=>0)
 case atStart=>exact⟨rfl,rfl,rfl⟩
 case round=>
  obtain⟨rfl,rfl,rfl⟩:=hrel
  go_wp2
  go_ret
  exact⟨rfl,rfl⟩
theorem Zfw{n:Nat}{p:PV}(h:(cAU (mAc q n) u)[j]?=ZA p)(h6:j≠6):∃v,p=.v v/\mvA q n j=ZA v/\v.oneCell'=true:=by
 match j,h with
 |0,h=>obtain rfl:=VG h;exact⟨_,rfl,rfl,rfl⟩
 |1,h=>obtain rfl:=VG h;exact⟨_,rfl,rfl,rfl⟩
 |2,h=>obtain rfl:=VG h;exact⟨_,rfl,by show ZA (Value.int .i64 (q+1+1))=ZA (ZF ZG (q+2));congr 2;omega,rfl⟩
 |3,h=>obtain rfl:=VG h;exact⟨_,rfl,by show ZA (Value.string (bQ (q+1+1+1)))=ZA (.string (bQ (q+3)));congr 3;omega,rfl⟩
 |4,h=>obtain rfl:=VG h;exact⟨_,rfl,by show ZA (Value.string (bQ (q+1+1+1+1)))=ZA (.string (bQ (q+4)));congr 3;omega,rfl⟩
 |5,h=>obtain rfl:=VG h;exact⟨_,rfl,by show ZA (Value.int .i64 (q+1+1+1+1+1))=ZA (ZF ZG (q+5));congr 2;omega,rfl⟩
 |6,h=>exact absurd rfl h6
 |7,h=>obtain rfl:=VG h;exact⟨_,rfl,by show ZA (Value.int .i64 (q+1+1+1+1+1+1+(n:Int)))=ZA (ZF ZG (q+6+n));congr 2;omega,rfl⟩
 |8,h=>obtain rfl:=VG h;exact⟨_,rfl,by show ZA (Value.int .i64 (q+1+1+1+1+1+1+(n:Int)+1))=ZA (ZF ZG (q+7+n));congr 2;omega,rfl⟩
 |9,h=>obtain rfl:=VG h;exact⟨_,rfl,by show ZA (Value.int .i64 (q+1+1+1+1+1+1+(n:Int)+1+1))=ZA (ZF ZG (q+8+n));congr 2;omega,rfl⟩
 |10,h=>obtain rfl:=VG h;exact⟨_,rfl,by show ZA (Value.int .i64 (q+1+1+1+1+1+1+(n:Int)+1+1+1))=ZA (ZF ZG (q+9+n));congr 2;omega,rfl⟩
 |11,h=>obtain rfl:=VG h;exact⟨_,rfl,by show ZA (Value.int .i64 (q+1+1+1+1+1+1+(n:Int)+1+1+1+1))=ZA (ZF ZG (q+10+n));congr 2;omega,rfl⟩
 |12,h=>obtain rfl:=VG h;exact⟨_,rfl,by show ZA (Value.int .i64 (q+1+1+1+1+1+1+(n:Int)+1+1+1+1+1))=ZA (ZF ZG (q+11+n));congr 2;omega,rfl⟩
 |j+13,h=>simp[cAU]at h
def DA(os:List ZJ)(W:Nat->cL)(B:cL)(b:Nat):Prop:=(B.z=ZD/\b=B.b)\/QSA os W b
structure GA(w:World)(os:List ZJ)(us:Nat->Value)(W:Nat->cL)(B:cL):Prop where
 row:RB w 48 13 (Rc os us) B
 sd:∀j o,os[j]?=ZA o->E9 w o.av.bb (us j) (W j)
 ne:∀j,j<os.length->Nk (W j) B
 inj:∀i j,i<os.length->j<os.length->(W i).z=ZD->(W j).z=ZD->(W i).b=(W j).b->i=j
theorem GA.lt{w:World}{os:List ZJ}{us:Nat->Value}{W:Nat->cL}{B:cL}(h:GA w os us W B){b:Nat}(hb:DA os W B b):b<w.heap.size:=by
 rcases hb with⟨hz,rfl⟩ |⟨j,hj,hz,rfl⟩
 ·exact RB.lt h.row hz
 ·exact(h.sd j _ (VF hj)).lt hz
theorem GA.cx{w w':World}{os:List ZJ}{us:Nat->Value}{W:Nat->cL}{B:cL}{O:Nat->Prop}(h:GA w os us W B)(hu:mA O w w')(hO:∀b,DA os W B b->¬O b):GA w' os us W B:=
 { h with row:=h.row.cx hu λhz=>hO _ (.inl ⟨hz,rfl⟩),sd:=λj o ho=>(h.sd j o ho).vm λhz=>hu.block _ ((h.sd j o ho).lt hz) (hO _ (.inr ⟨j,(VH.1 ho).1,hz,rfl⟩))}
theorem GA.mark{w:World}(h:GA w os us W B)(hn:os.length<=1048576)(hw:∀o∈os,o.av.bb.length<=1048576)(h0:1<=k)(h1:tn k os<=1000000000):
 Calls prog 25 #[B.sv,ZF ZG k] w λe w'=>e=.returned (ZF ZG (tn k os))/\GA w' (xP k os) us W B/\mA (DA os W B) w w':=by
 have hB:=h.row
 cases hz:B.z with
 |true=>
  have h0':=hB.nil hz;have:os=[]:=by
   have:=congrArg Yi h0';rw[zR]at this
   exact W4.1 this
  subst this;refine(by simpa[cL.sv,hz]using Tq ZB 0 k w:Calls prog 25 #[B.sv,ZF ZG k] w λe w'=>e=.returned (ZF ZG k)/\w'=w).mono ?_
  rintro e w' ⟨rfl,rfl⟩;exact⟨rfl,h,mA.refl _ _⟩
 |false=>
  obtain⟨cells,m1,m2,m3⟩:=hB.mem hz;have hk:B.k=13:=hB.k;have MO:B.n=os.length:=hB.n.trans zR;have hT:B.T=48:=hB.T;rw[hT]at m1
  rw[hk]at m2 m3
  have xt:=hB.nc;have hs:MIA os us W k B.b cells.size w 0 w:=by
   refine⟨NX.start ⟨cells,m1,rfl,λo v ho=>?_⟩,λi hi=>absurd hi (WE i),λi _ o ho=>h.sd i o ho⟩
   unfold PPA at ho
   split at ho
   ·rename_i bO
    split at ho
    ·rename_i h6
     have hx:os[o / 13]?=ZA os[o / 13]:=VF bO;obtain⟨x,x1,x2,x3⟩:=m3 _ _ 6 (.v (us (o / 13))) (NU hx) rfl;obtain⟨rfl,_⟩:=x3.cF;rw[show o / 13*13+6=o by omega]at x1
     rw[x1];exact ho
    ·rw[if_neg (WE _)]at ho;cases ho
   ·cases ho
  have La:B.sv=.slice (ZA ⟨B.b,0,ZB⟩) os.length B.c:=by simp[cL.sv,hz,MO]
  rw[La];refine(Tr os us W k B.b B.c cells.size (by rw[m2];exact V1 _ YG) w hs hn hw h0 h1 (λj hj hzj=>h.ne j hj hzj hz) h.inj).mono ?_
  rintro e w' ⟨rfl,hM⟩;have Gm:∀j o,(xP k os)[j]?=ZA o->E9 w' o.av.bb (us j) (W j):=λj o ho=>by
   rw[Jc]at ho
   obtain⟨x,h2,rfl⟩:=VT.1 ho;exact hM.done j (VH.1 h2).1 x h2
  refine⟨rfl,⟨⟨hk,by rw[MO,zR,uH],hT,hB.pos,hB.nc,hB.cm,λi cs hi=>?_,λh=>Zt,λ_=>?_,λ_ h=>by cases h⟩,Gm,λj hj=>h.ne j (by rwa[uH]at hj),λi j hi hj=>h.inj i j (by rwa[uH]at hi) (by rwa[uH]at hj)⟩,⟨hM.mx.os,hM.mx.tape,hM.mx.output,hM.mx.size,λb hb hn=>hM.mx.tq b hb (λe=>hn (.inl ⟨hz,e⟩)) λhq=>hn (.inr hq)⟩⟩
  ·obtain⟨o,_,rfl⟩:=DK hi
   rw[hk];rfl
  ·obtain⟨c,c1,c2,c3⟩:=hM.mx.row
   refine⟨c,by rw[hT];exact c1,by rw[c2,m2,hk],λi cs j p hi hj=>?_⟩
   obtain⟨o,ho,rfl⟩:=DK hi;rw[Jc]at ho
   obtain⟨x,h2,rfl⟩:=VT.1 ho;have wI:i<os.length:=(VH.1 h2).1;have MM:j<13:=by have:=(VH.1 hj).1;simpa[cAU]using this
   rw[hk]
   by_cases h6:j=6
   ·subst h6
    obtain rfl:=VG hj;obtain⟨A,cc,hu⟩:=(hM.done i wI x h2).one;refine⟨us i,c3 _ _ ?_,by rw[hu];rfl,.c (.v _ (by rw[hu];rfl))⟩
    unfold PPA;rw[show(i*13+6) / 13=i by omega,if_pos wI,if_pos YG]
   ·obtain⟨v,rfl,hv,h1c⟩:=Zfw hj h6
    refine⟨v,c3 _ _ ?_,h1c,.c (.v _ h1c)⟩;unfold PPA;rw[show(i*13+j) / 13=i by omega,if_pos wI,if_neg YG,if_pos wI,Zax h2,show(i*13+j) % 13=j by omega]
    exact hv
def mvP(q:Int)(n:Nat):Nat->Option Value
 |0=>ZA (ZF ZG q)
 |1=>ZA (ZF ZG (q+1))
 |2=>ZA (.string (bQ (q+1+1)))
 |3=>ZA (.string (bQ (q+1+1+1)))
 |4=>ZA (ZF ZG (q+1+1+1+1))
 |6=>ZA (ZF ZG (q+1+1+1+1+1+(n:Int)))
 |_=>ZB
def slP(os:List aM)(j:Nat):Nat:=match os[j]? with
 |some o=>o.bb.length
 |none=>0
def PPP(os:List aM)(us:Nat->Value)(k:Int)(j:Nat)(o:Nat):Option Value:=
 if o / 7<os.length then(if o % 7=5 then ZA (us (o / 7))else if o / 7<j then mvP (vo k (os.take (o / 7))) (slP os (o / 7)) (o % 7)else ZB)else ZB
def QSP(os:List aM)(W:Nat->cL)(b:Nat):Prop:=∃j,j<os.length/\(W j).z=ZD/\b=(W j).b
structure MIP(os:List aM)(us:Nat->Value)(W:Nat->cL)(k:Int)(g N:Nat)(w:World)(j:Nat)(a:World):Prop where
 mx:NX 44 w a g N (PPP os us k j) (QSP os W)
 done:∀i,i<j->∀o,os[i]?=ZA o->E9 a (zD (vo k (os.take i)+5) o.bb.length) (us i) (W i)
 rest:∀i,j<=i->∀o,os[i]?=ZA o->E9 a o.bb (us i) (W i)
theorem Zay{os:List aM}{o:aM}(h:os[j]?=ZA o):slP os j=o.bb.length:=by simp[slP,h]
theorem Zdi{os:List aM}{act:aM}(hj:os[j]?=ZA act)(hq:q=vo k (os.take j)){n:Nat}(hn:n=act.bb.length)(o:Nat)(v:Value)(h:PPP os us k (j+1) o=ZA v):
 (if o=j*7+6 then ZA (ZF ZG (q+1+1+1+1+1+(n:Int)))else if o=j*7+4 then ZA (ZF ZG (q+1+1+1+1))else if o=j*7+3 then ZA (.string (bQ (q+1+1+1)))else if o=j*7+2 then ZA (.string (bQ (q+1+1)))else if o=j*7+1 then ZA (ZF ZG (q+1))else if o=j*7 then ZA (ZF ZG q)else PPP os us k j o)=ZA v:=by
 have bO:j<os.length:=(VH.1 hj).1
 by_cases hd:o / 7=j
 ·have h6:o=j*7+o % 7:=YG
  unfold PPP at h⊢
  rw[hd,if_pos bO]at h
  have hm:o % 7<7:=XM _ YG
  by_cases c6:o % 7=5
  ·rw[if_pos c6]at h
   rw[if_neg YG,if_neg YG,if_neg YG,if_neg YG,if_neg YG,if_neg YG,hd,if_pos bO,if_pos c6];exact h
  ·rw[if_neg c6,if_pos YG,Zay hj,<-hn,<-hq]at h
   rw[hd,if_pos bO,if_neg c6,if_neg (XW j)];have:o % 7=0\/o % 7=1\/o % 7=2\/o % 7=3\/o % 7=4\/o % 7=6:=YG
   rcases this with e|e|e|e|e|e<;>rw[e]at h h6<;>simp only[mvP]at h<;>rw[h6]<;>simp<;>simpa using h
 ·have ho:PPP os us k j o=ZA v:=by
   unfold PPP at h⊢
   split at h
   ·rename_i h1
    rw[if_pos h1]
    split at h
    ·rename_i h2;rw[if_pos h2];exact h
    ·rename_i h2
     rw[if_neg h2]
     split at h
     ·rename_i h3;rw[if_pos YG];exact h
     ·cases h
   ·cases h
  rw[if_neg YG,if_neg YG,if_neg YG,if_neg YG,if_neg YG,if_neg YG];exact ho
theorem Kr(os:List aM)(us:Nat->Value)(W:Nat->cL)(k:Int)(g c N:Nat)(hN:os.length*7<=N)(w:World)(hs:MIP os us W k g N w 0 w)(hn:os.length<=1048576)(hw:∀o∈os,o.bb.length<=1048576)(h0:1<=k)(h1:vo k os<=1000000000)
 (hg:∀j,j<os.length->(W j).z=ZD->(W j).b≠g) (hd:∀i j,i<os.length->j<os.length->(W i).z=ZD->(W j).z=ZD->(W i).b=(W j).b->i=j):
 Calls prog 75 #[.slice (ZA ⟨g,0,ZB⟩) os.length c,ZF ZG k] w λe w'=>e=.returned (ZF ZG (vo k os))/\MIP os us W k g N w os.length w':=by
 have HG:=Lib.hid hg;have HD:=Lib.hid hd;have HW:=Lib.hid hw;have H1:=Lib.hid h1;clear hg hd hw h1
 go_enter func75,ntmps75
 go_wp2
 go_loopw [5,1] (λi kk wr=>∃j:Nat,j<=os.length/\i=ZF ZG j/\kk=ZF ZG (vo k (os.take j))/\MIP os us W k g N w j wr) (λi _ _=>os.length-(intOf i).toNat)
 case atStart=>exact⟨0,YG,rfl,rfl,hs⟩
 case round=>
  obtain⟨j,hj,rfl,rfl,hM⟩:=hrel
  by_cases bO:j<os.length
  ·obtain⟨ord,ho⟩:∃o,os[j]?=ZA o:=⟨_,VF bO⟩
   have vl:vo k (os.take (j+1))=vo k (os.take j)+6+(ord.bb.length:Int):=by rw[WY,ho];exact Qn _ _ _
   have IW:1<=vo k (os.take j):=WM h0 (Nj _ _);have Ey:vo k (os.take (j+1))<=1000000000:=WM (Qo _ _ _) H1.out;have PO:=HW.out ord (VI ho);have BS:=hM.rest j (VJ j) ord ho;obtain⟨A6,c6,hu6⟩:=BS.one;have HST:=Lib.hid (fun(o:Nat) (v:Value)=>Zdi (os:=os) (us:=us) (k:=k) ho rfl rfl o v)
   have HQ:=Lib.hid vl;have HO:=Lib.hid ho;have HMI:=Lib.hid hM;have X0:NX 44 wr wr g N (PPP os us k j) (λ_=>False):=NX.start hM.mx.row
   have p6:PPP os us k j (j*7+5)=ZA (us j):=by
    unfold PPP;rw[show(j*7+5) / 7=j by omega,if_pos bO,if_pos YG]
   rw[vl]at Ey
   clear vl ho hM hs;generalize hqq:vo k (os.take j)=q at *
   generalize MO:ord.bb.length=n at *
   have HE:=Lib.hid hqq;clear hqq;obtain⟨⟨u0,d0⟩,f0⟩:=X0.any (o:=j*7) YG;obtain⟨⟨u1,d1⟩,f1⟩:=X0.any (o:=j*7+1) YG;have X0h:=Lib.hid X0;have HP:=Lib.hid p6;have HWy:=Lib.hid BS;have HU:=Lib.hid hu6;clear X0 p6 BS hu6
   go_wp2_with fail
   refine(jx _ _ YG YG).mono ?_;rintro e w1 ⟨rfl,uQ⟩;have X1:=((X0h.out.set (j*7) (ZF ZG q) YG).set (j*7+1) (ZF ZG (q+1)) YG).up uQ;clear uQ d0 f0 d1 f1;obtain⟨⟨u2,d2⟩,f2⟩:=X1.any (o:=j*7+2) YG;have X1h:=Lib.hid X1;clear X1
   go_wp2_with fail
   refine(jx _ _ YG YG).mono ?_;rintro e w2 ⟨rfl,xj⟩;have X2:=(X1h.out.set (j*7+2) (.string (bQ (q+1+1))) YG).up xj;clear xj d2 f2;obtain⟨⟨u3,d3⟩,f3⟩:=X2.any (o:=j*7+3) YG;obtain⟨⟨u4,d4⟩,f4⟩:=X2.any (o:=j*7+4) YG;have dJ:w2.cell? ⟨g,j*7+5,ZB⟩=ZA (us j):=X2.cell (by simp only[if_neg (show ¬j*7+5=j*7+2 by omega),if_neg (show ¬j*7+5=j*7+1 by omega),if_neg (show ¬j*7+5=j*7 by omega)];exact HP.out)
   rw[HU.out]at dJ
   have X2h:=Lib.hid X2;clear X2
   go_wp2_with fail
   have Xc:=((X2h.out.set (j*7+3) (.string (bQ (q+1+1+1))) YG).set (j*7+4) (ZF ZG (q+1+1+1+1)) YG);have hwc:=HWy.out.vm λhz=>Xc.tq _ (HWy.out.lt hz) (HG.out j bO hz) (λh=>h)
   have xG:=Zfn hwc YG (k:=q+1+1+1+1+1) YG YG;rw[HU.out,MO]at xG
   have HCA:=Lib.hid xG;have XcH:=Lib.hid Xc;clear xG hwc Xc;refine HCA.out.mono ?_;rintro e w3 ⟨rfl,Fw,Oe⟩;have X3:=(XcH.out.more (Q':=λb=>(W j).z=ZD/\b=(W j).b) (λ_ h=>h.elim)).upO Oe (λx hx=>⟨by rw[hx.2];exact HG.out j bO hx.1,hx⟩)
   clear d3 f3 d4 f4 dJ;obtain⟨⟨u6,d6⟩,f6⟩:=X3.any (o:=j*7+6) YG;have X3h:=Lib.hid X3;have HW3:=Lib.hid Fw;clear X3 Fw Oe
   go_wp2_with fail
   have X5:=(X3h.out.set (j*7+6) (ZF ZG (q+1+1+1+1+1+(n:Int))) YG);have hlen:∀{i:Nat} {o:aM},os[i]?=ZA o->i<os.length:=λh=>(VH.1 h).1
   have vm:∀{i:Nat} {xs:List Int} {u:Value},i<os.length->i≠j->E9 wr xs u (W i)->E9 _ xs u (W i):=λ{i xs u} hi dX h=>
    h.vm λhz=>X5.tq _ (h.lt hz) (HG.out i hi hz) λhh=>dX (HD.out i j hi bO hz hh.1 hh.2)
   refine⟨⟨j+1,YG,by go_num,by rw[HQ.out];congr 1;omega,⟨(HMI.out.mx.trans X5 λx hx=>⟨j,bO,hx.1,hx.2⟩).UH HST.out,λi hi o Bs=>?_,λi hi o Bs=>?_⟩⟩,by simp[intOf];omega⟩
   ·rcases Wg i j with h|h
    ·exact vm (hlen Bs) YG (HMI.out.done i h o Bs)
    ·obtain rfl:i=j:=YG
     have e:ord=o:=by have:=HO.out;rw[Bs]at this;exact(VG this).symm
     subst e;rw[MO,HU.out];have h3:=HW3.out;rw[show q+1+1+1+1+1=vo k (os.take i)+5 by rw[HE.out];omega]at h3
     refine h3.vm λhz=>?_
     have dX:=HG.out i bO hz;rw[heap_setCell_other _ _ _ _ dX]
   ·exact vm (hlen Bs) YG (HMI.out.rest i YG o Bs)
  ·obtain rfl:j=os.length:=YG
   have HT2:=Lib.hid (show vo k (os.take os.length)=vo k os by rw[WA])
   go_wp2_with fail
   go_ret
   exact⟨Zlp (by rw[HT2.out]),hM⟩
def cPU(a:aM)(u:Value):List PV:=[vi a.label.ax,vi a.label.bZ,vs a.label.aX,vs a.ar,vi a.ab,.v u,vi a.value]
def Re(os:List aM)(us:Nat->Value):List (List PV):=os.mapIdx λj o=>cPU o (us j)
theorem DM{os:List aM}(h:(Re os us)[i]?=ZA cs):∃o,os[i]?=ZA o/\cs=cPU o (us i):=by
 unfold Re at h
 rw[WW]at h
 obtain⟨o,h1,rfl⟩:=VT.1 h;exact⟨o,h1,rfl⟩
theorem NV{os:List aM}{o:aM}(h:os[i]?=ZA o):(Re os us)[i]?=ZA (cPU o (us i)):=by
 unfold Re;rw[WW,h];rfl
theorem zS{os:List aM}:(Re os us).length=os.length:=by simp[Re]
theorem Kq(A:Option Addr)(c:Nat)(k:Int)(w:World):Calls prog 75 #[.slice A 0 c,ZF ZG k] w λe w'=>e=.returned (ZF ZG k)/\w'=w:=by
 go_enter func75,ntmps75
 go_wp2
 go_loopw [5,1] (λi kk wr=>i=ZF ZG 0/\kk=ZF ZG k/\wr=w) (λ_ _ _=>0)
 case atStart=>exact⟨rfl,rfl,rfl⟩
 case round=>
  obtain⟨rfl,rfl,rfl⟩:=hrel
  go_wp2
  go_ret
  exact⟨rfl,rfl⟩
theorem Zfx{n:Nat}{p:PV}(h:(cPU (mPc q n) u)[j]?=ZA p)(h6:j≠5):∃v,p=.v v/\mvP q n j=ZA v/\v.oneCell'=true:=by
 match j,h with
 |0,h=>obtain rfl:=VG h;exact⟨_,rfl,rfl,rfl⟩
 |1,h=>obtain rfl:=VG h;exact⟨_,rfl,rfl,rfl⟩
 |2,h=>obtain rfl:=VG h;exact⟨_,rfl,by show ZA (Value.string (bQ (q+1+1)))=ZA (.string (bQ (q+2)));congr 3;omega,rfl⟩
 |3,h=>obtain rfl:=VG h;exact⟨_,rfl,by show ZA (Value.string (bQ (q+1+1+1)))=ZA (.string (bQ (q+3)));congr 3;omega,rfl⟩
 |4,h=>obtain rfl:=VG h;exact⟨_,rfl,by show ZA (Value.int .i64 (q+1+1+1+1))=ZA (ZF ZG (q+4));congr 2;omega,rfl⟩
 |5,h=>exact absurd rfl h6
 |6,h=>obtain rfl:=VG h;exact⟨_,rfl,by show ZA (Value.int .i64 (q+1+1+1+1+1+(n:Int)))=ZA (ZF ZG (q+5+n));congr 2;omega,rfl⟩
 |j+7,h=>simp[cPU]at h
def DP(os:List aM)(W:Nat->cL)(B:cL)(b:Nat):Prop:=(B.z=ZD/\b=B.b)\/QSP os W b
structure GP(w:World)(os:List aM)(us:Nat->Value)(W:Nat->cL)(B:cL):Prop where
 row:RB w 44 7 (Re os us) B
 sd:∀j o,os[j]?=ZA o->E9 w o.bb (us j) (W j)
 ne:∀j,j<os.length->Nk (W j) B
 inj:∀i j,i<os.length->j<os.length->(W i).z=ZD->(W j).z=ZD->(W i).b=(W j).b->i=j
theorem GP.lt{w:World}{os:List aM}{us:Nat->Value}{W:Nat->cL}{B:cL}(h:GP w os us W B){b:Nat}(hb:DP os W B b):b<w.heap.size:=by
 rcases hb with⟨hz,rfl⟩ |⟨j,hj,hz,rfl⟩
 ·exact RB.lt h.row hz
 ·exact(h.sd j _ (VF hj)).lt hz
theorem GP.cx{w w':World}{os:List aM}{us:Nat->Value}{W:Nat->cL}{B:cL}{O:Nat->Prop}(h:GP w os us W B)(hu:mA O w w')(hO:∀b,DP os W B b->¬O b):GP w' os us W B:=
 { h with row:=h.row.cx hu λhz=>hO _ (.inl ⟨hz,rfl⟩),sd:=λj o ho=>(h.sd j o ho).vm λhz=>hu.block _ ((h.sd j o ho).lt hz) (hO _ (.inr ⟨j,(VH.1 ho).1,hz,rfl⟩))}
theorem GP.mark{w:World}{os:List aM}(h:GP w os us W B)(hn:os.length<=1048576)(hw:∀o∈os,o.bb.length<=1048576)(h0:1<=k)(h1:vo k os<=1000000000):
 Calls prog 75 #[B.sv,ZF ZG k] w λe w'=>e=.returned (ZF ZG (vo k os))/\GP w' (xQ k os) us W B/\mA (DP os W B) w w':=by
 have hB:=h.row
 cases hz:B.z with
 |true=>
  have h0':=hB.nil hz;have:os=[]:=by
   have:=congrArg Yi h0';rw[zS]at this
   exact W4.1 this
  subst this;refine(by simpa[cL.sv,hz]using Kq ZB 0 k w:Calls prog 75 #[B.sv,ZF ZG k] w λe w'=>e=.returned (ZF ZG k)/\w'=w).mono ?_
  rintro e w' ⟨rfl,rfl⟩;exact⟨rfl,h,mA.refl _ _⟩
 |false=>
  obtain⟨cells,m1,m2,m3⟩:=hB.mem hz;have hk:B.k=7:=hB.k;have MO:B.n=os.length:=hB.n.trans zS;have hT:B.T=44:=hB.T;rw[hT]at m1
  rw[hk]at m2 m3
  have xt:=hB.nc;have hs:MIP os us W k B.b cells.size w 0 w:=by
   refine⟨NX.start ⟨cells,m1,rfl,λo v ho=>?_⟩,λi hi=>absurd hi (WE i),λi _ o ho=>h.sd i o ho⟩
   unfold PPP at ho
   split at ho
   ·rename_i bO
    split at ho
    ·rename_i h6
     have hx:os[o / 7]?=ZA os[o / 7]:=VF bO;obtain⟨x,x1,x2,x3⟩:=m3 _ _ 5 (.v (us (o / 7))) (NV hx) rfl;obtain⟨rfl,_⟩:=x3.cF;rw[show o / 7*7+5=o by omega]at x1
     rw[x1];exact ho
    ·rw[if_neg (WE _)]at ho;cases ho
   ·cases ho
  have La:B.sv=.slice (ZA ⟨B.b,0,ZB⟩) os.length B.c:=by simp[cL.sv,hz,MO]
  rw[La];refine(Kr os us W k B.b B.c cells.size (by rw[m2];exact V1 _ YG) w hs hn hw h0 h1 (λj hj hzj=>h.ne j hj hzj hz) h.inj).mono ?_
  rintro e w' ⟨rfl,hM⟩;have Gm:∀j o,(xQ k os)[j]?=ZA o->E9 w' o.bb (us j) (W j):=λj o ho=>by
   rw[Je]at ho
   obtain⟨x,h2,rfl⟩:=VT.1 ho;exact hM.done j (VH.1 h2).1 x h2
  refine⟨rfl,⟨⟨hk,by rw[MO,zS,uJ],hT,hB.pos,hB.nc,hB.cm,λi cs hi=>?_,λh=>Zt,λ_=>?_,λ_ h=>by cases h⟩,Gm,λj hj=>h.ne j (by rwa[uJ]at hj),λi j hi hj=>h.inj i j (by rwa[uJ]at hi) (by rwa[uJ]at hj)⟩,⟨hM.mx.os,hM.mx.tape,hM.mx.output,hM.mx.size,λb hb hn=>hM.mx.tq b hb (λe=>hn (.inl ⟨hz,e⟩)) λhq=>hn (.inr hq)⟩⟩
  ·obtain⟨o,_,rfl⟩:=DM hi
   rw[hk];rfl
  ·obtain⟨c,c1,c2,c3⟩:=hM.mx.row
   refine⟨c,by rw[hT];exact c1,by rw[c2,m2,hk],λi cs j p hi hj=>?_⟩
   obtain⟨o,ho,rfl⟩:=DM hi;rw[Je]at ho
   obtain⟨x,h2,rfl⟩:=VT.1 ho;have wI:i<os.length:=(VH.1 h2).1;have MM:j<7:=by have:=(VH.1 hj).1;simpa[cPU]using this
   rw[hk]
   by_cases h6:j=5
   ·subst h6
    obtain rfl:=VG hj;obtain⟨A,cc,hu⟩:=(hM.done i wI x h2).one;refine⟨us i,c3 _ _ ?_,by rw[hu];rfl,.c (.v _ (by rw[hu];rfl))⟩
    unfold PPP;rw[show(i*7+5) / 7=i by omega,if_pos wI,if_pos YG]
   ·obtain⟨v,rfl,hv,h1c⟩:=Zfx hj h6
    refine⟨v,c3 _ _ ?_,h1c,.c (.v _ h1c)⟩;unfold PPP;rw[show(i*7+j) / 7=i by omega,if_pos wI,if_neg YG,if_pos wI,Zay h2,show(i*7+j) % 7=j by omega]
    exact hv
def gX(s0:Int×Int×(List bF)):Option ((Int×Int×(List bF))⊕(Int×(List bF))):=
 cond (ZE (s0.2.1<(s0.2.2.length:Int)))
 ((bg s0.1).bind λy1=>
 (aA s0.2.2 s0.2.1).bind λy2=>
 (bg (aH (s0.1+1))).bind λy3=>
 (aA s0.2.2 s0.2.1).bind λy4=>
 ZA (.inl ((aH ((aH (s0.1+1))+1)),(aH (s0.2.1+1)),(s0.2.2.set (V0 s0.2.1) (⟨y1,y3⟩:bF)))))
 (ZA (.inr (s0.1,s0.2.2)))
instance :bj (gX):=⟨λs0=>(.ms 0::vi s0.1::(U 3 (vi s0.2.1::(U 23 [])))),λs0=>[ZA ⟨.of 104,2,s0.2.2.map b6⟩]⟩
def mJ(a:List bF)(k:Int):Option (Int×(List bF)):=
 (aD (gX) NN (k,0,a)).bind (λo0=>
 ZA (o0.1,o0.2))
instance (a:List bF)(k:Int):CT prog (mJ a k):=⟨72,[.ms 0,vi k],[ZA ⟨.of 104,2,a.map b6⟩],λr=>vi r.1,λr=>[ZA ⟨.of 104,2,r.2.map b6⟩],cw (mJ.eq_1 ..) func72 ntmps72 results72⟩
def jT(a:List bF)(s0:Int×Int):Option ((Int×Int)⊕(Int⊕Int)):=
 cond (ZE (s0.2<(a.length:Int)))
 ((aA a s0.2).bind λy1=>
 (bg s0.1).bind λy2=>
 cond (!decide (y1.first=y2))
 (ZA (.inr (.inr (-1))))
 ((aA a s0.2).bind λy3=>
 (bg (aH (s0.1+1))).bind λy4=>
 cond (!decide (y3.last=y4))
 (ZA (.inr (.inr (-1))))
 (ZA (.inl ((aH ((aH (s0.1+1))+1)),(aH (s0.2+1)))))))
 (ZA (.inr (.inl s0.1)))
instance (a:List bF):bj (jT a):=⟨λs0=>(.sl (a.map b6)::vi s0.1::(U 3 (vi s0.2::(U 27 [])))),λs0=>[]⟩
def ku(a:List bF)(k:Int):Option Int:=
 (aD (jT a) NN (k,0)).bind (bm (λo0=>
 ZA o0) (λr=>ZA r))
instance (a:List bF)(k:Int):CT prog (ku a k):=⟨79,[.sl (a.map b6),vi k],[],λr=>vi r,λr=>[],cw (ku.eq_1 ..) func79 ntmps79 results79⟩
def gU(s0:Int×Int×(List bH)):Option ((Int×Int×(List bH))⊕(Int×(List bH))):=
 cond (ZE (s0.2.1<(s0.2.2.length:Int)))
 ((aA s0.2.2 s0.2.1).bind λy1=>
 (aA s0.2.2 s0.2.1).bind λy2=>
 (aA s0.2.2 s0.2.1).bind λy3=>
 (aA s0.2.2 s0.2.1).bind λy4=>
 ZA (.inl ((aH ((aH ((aH ((aH (s0.1+1))+1))+1))+1)),(aH (s0.2.1+1)),(s0.2.2.set (V0 s0.2.1) (⟨s0.1,(aH (s0.1+1)),(aH ((aH (s0.1+1))+1)),(aH ((aH ((aH (s0.1+1))+1))+1))⟩:bH)))))
 (ZA (.inr (s0.1,s0.2.2)))
instance :bj (gU):=⟨λs0=>(.ms 0::vi s0.1::(U 3 (vi s0.2.1::(U 35 [])))),λs0=>[ZA ⟨.of 107,4,s0.2.2.map b9⟩]⟩
def mG(a:List bH)(k:Int):Option (Int×(List bH)):=
 (aD (gU) NN (k,0,a)).bind (λo0=>
 ZA (o0.1,o0.2))
instance (a:List bH)(k:Int):CT prog (mG a k):=⟨73,[.ms 0,vi k],[ZA ⟨.of 107,4,a.map b9⟩],λr=>vi r.1,λr=>[ZA ⟨.of 107,4,r.2.map b9⟩],cw (mG.eq_1 ..) func73 ntmps73 results73⟩
def jQ(a:List bH)(s0:Int×Int):Option ((Int×Int)⊕(Int⊕Int)):=
 cond (ZE (s0.2<(a.length:Int)))
 ((aA a s0.2).bind λy1=>
 cond (!decide (y1.nD=s0.1))
 (ZA (.inr (.inr (-1))))
 ((aA a s0.2).bind λy2=>
 cond (!decide (y2.ax=(aH (s0.1+1))))
 (ZA (.inr (.inr (-1))))
 ((aA a s0.2).bind λy3=>
 cond (!decide (y3.lT=(aH ((aH (s0.1+1))+1))))
 (ZA (.inr (.inr (-1))))
 ((aA a s0.2).bind λy4=>
 cond (!decide (y4.nK=(aH ((aH ((aH (s0.1+1))+1))+1))))
 (ZA (.inr (.inr (-1))))
 (ZA (.inl ((aH ((aH ((aH ((aH (s0.1+1))+1))+1))+1)),(aH (s0.2+1)))))))))
 (ZA (.inr (.inl s0.1)))
instance (a:List bH):bj (jQ a):=⟨λs0=>(.sl (a.map b9)::vi s0.1::(U 3 (vi s0.2::(U 43 [])))),λs0=>[]⟩
def kq(a:List bH)(k:Int):Option Int:=
 (aD (jQ a) NN (k,0)).bind (bm (λo0=>
 ZA o0) (λr=>ZA r))
instance (a:List bH)(k:Int):CT prog (kq a k):=⟨80,[.sl (a.map b9),vi k],[],λr=>vi r,λr=>[],cw (kq.eq_1 ..) func80 ntmps80 results80⟩
def gT(s0:Int×Int×(List aU)):Option ((Int×Int×(List aU))⊕(Int×(List aU))):=
 cond (ZE (s0.2.1<(s0.2.2.length:Int)))
 ((aA s0.2.2 s0.2.1).bind λy1=>
 (aA s0.2.2 s0.2.1).bind λy2=>
 (aA s0.2.2 s0.2.1).bind λy3=>
 (aA s0.2.2 s0.2.1).bind λy4=>
 ZA (.inl ((aH ((aH ((aH ((aH (s0.1+1))+1))+1))+1)),(aH (s0.2.1+1)),(s0.2.2.set (V0 s0.2.1) (⟨s0.1,(aH (s0.1+1)),(aH ((aH (s0.1+1))+1)),(aH ((aH ((aH (s0.1+1))+1))+1))⟩:aU)))))
 (ZA (.inr (s0.1,s0.2.2)))
instance :bj (gT):=⟨λs0=>(.ms 0::vi s0.1::(U 3 (vi s0.2.1::(U 35 [])))),λs0=>[ZA ⟨.of 111,4,s0.2.2.map bD⟩]⟩
def mF(a:List aU)(k:Int):Option (Int×(List aU)):=
 (aD (gT) NN (k,0,a)).bind (λo0=>
 ZA (o0.1,o0.2))
instance (a:List aU)(k:Int):CT prog (mF a k):=⟨76,[.ms 0,vi k],[ZA ⟨.of 111,4,a.map bD⟩],λr=>vi r.1,λr=>[ZA ⟨.of 111,4,r.2.map bD⟩],cw (mF.eq_1 ..) func76 ntmps76 results76⟩
def jP(a:List aU)(s0:Int×Int):Option ((Int×Int)⊕(Int⊕Int)):=
 cond (ZE (s0.2<(a.length:Int)))
 ((aA a s0.2).bind λy1=>
 cond (!decide (y1.order=s0.1))
 (ZA (.inr (.inr (-1))))
 ((aA a s0.2).bind λy2=>
 cond (!decide (y2.kind=(aH (s0.1+1))))
 (ZA (.inr (.inr (-1))))
 ((aA a s0.2).bind λy3=>
 cond (!decide (y3.bh=(aH ((aH (s0.1+1))+1))))
 (ZA (.inr (.inr (-1))))
 ((aA a s0.2).bind λy4=>
 cond (!decide (y4.aO=(aH ((aH ((aH (s0.1+1))+1))+1))))
 (ZA (.inr (.inr (-1))))
 (ZA (.inl ((aH ((aH ((aH ((aH (s0.1+1))+1))+1))+1)),(aH (s0.2+1)))))))))
 (ZA (.inr (.inl s0.1)))
instance (a:List aU):bj (jP a):=⟨λs0=>(.sl (a.map bD)::vi s0.1::(U 3 (vi s0.2::(U 43 [])))),λs0=>[]⟩
def kp(a:List aU)(k:Int):Option Int:=
 (aD (jP a) NN (k,0)).bind (bm (λo0=>
 ZA o0) (λr=>ZA r))
instance (a:List aU)(k:Int):CT prog (kp a k):=⟨83,[.sl (a.map bD),vi k],[],λr=>vi r,λr=>[],cw (kp.eq_1 ..) func83 ntmps83 results83⟩
def R2(k:Int):bF:=⟨bQ k,bQ (k+1)⟩
def Co(k:Int)(n:Nat):List bF:=(Wq n).map λi:Nat=>R2 (k+2*(i:Int))
theorem Dz{n:Nat}:(Co k n).length=n:=by simp[Co]
theorem Zft{n:Nat}:Co k (n+1)=Co k n++[R2 (k+2*(n:Int))]:=by simp[Co,WV]
theorem Nd(a:List bF)(k:Int)(ha:a.length<=1048576)(h0:1<=k)(h1:k<=1000000000):mJ a k=ZA (k+2*a.length,Co k a.length):=by
 unfold mJ;have e0:(k,0,a)=(λi:Nat=>((k+2*(i:Int),(i:Int),Co k i++a.drop i):Int×Int×List bF)) 0:=by simp[Co]
 have hh:aD gX NN ((λi:Nat=>(k+2*(i:Int),(i:Int),Co k i++a.drop i)) 0)=ZA ((k+2*a.length,Co k a.length)):=by
  refine j4 (λi:Nat=>(k+2*(i:Int),(i:Int),Co k i++a.drop i)) (n:=a.length) ?_ ?_ NN YI
  ·intro i hi
   have hL:i<(Co k i++a.drop i).length:=by simp[Dz];omega
   generalize hq:k+2*(i:Int)=q;have IW:1<=q:=YG;have Ey:q<=1010000000:=YG;have vl:k+2*((i+1:Nat):Int)=q+1+1:=YG;have w1:aH (q+1)=q+1:=aL YG;have w2:aH (q+1+1)=q+1+1:=aL YG;have wi:aH ((i:Int)+1)=((i+1:Nat):Int):=by rw[aL YG];omega
   have t0:bg q=ZA (bQ q):=jA YG;have t1:bg (q+1)=ZA (bQ (q+1)):=jA YG;have d1:ZE ((i:Int)<((Co k i++a.drop i).length:Int))=true:=Yp YG;have hs:=uM (v:=R2 q) Dz (show i<a.length from hi) (M:=Co k i);rw[Zft,hq,vl];generalize Co k i++a.drop i=L at *
   have gs:∀(xs:List bF) (v:bF),i<xs.length->aA (xs.set i v) (i:Int)=ZA v:=λxs v h=>tG h
   simp only[gX,d1,YC,t0,t1,jM hL,VE,w1,w2,wi,We,zp,gs,Ws,hL,Xn,<-hs];rfl
  ·have d1:ZE ((a.length:Int)<((Co k a.length).length:Int))=false:=Yz (by simp[Dz])
   simp only[gX,WS,Wy,d1,YD]
 rw[e0,hh];rfl
theorem MJ(k:Int)(n:Nat)(hn:n<=1048576)(h0:1<=k)(h1:k<=1000000000):ku (Co k n) k=ZA (k+2*n):=by
 unfold ku;have e0:(k,0)=(λi:Nat=>((k+2*(i:Int),(i:Int)):Int×Int)) 0:=by simp
 have hh:aD (jT (Co k n)) NN ((λi:Nat=>(k+2*(i:Int),(i:Int))) 0)=ZA (W6 (k+2*n)):=by
  refine j4 (λi:Nat=>(k+2*(i:Int),(i:Int))) (n:=n) ?_ ?_ NN YI
  ·intro i hi
   have hL:i<(Co k n).length:=by rw[Dz];exact hi
   have g:(Co k n)[i]=R2 (k+2*(i:Int)):=by simp[Co]
   have hg:=jM hL;rw[g]at hg
   have d1:ZE ((i:Int)<((Co k n).length:Int))=true:=Yp YG;have vl:k+2*((i+1:Nat):Int)=k+2*(i:Int)+1+1:=YG;rw[vl];generalize Co k n=L at *
   have IW:1<=k+2*(i:Int):=YG;have Ey:k+2*(i:Int)<=1010000000:=YG;generalize k+2*(i:Int)=q at *
   have w1:aH (q+1)=q+1:=aL YG;have w2:aH (q+1+1)=q+1+1:=aL YG;have wi:aH ((i:Int)+1)=((i+1:Nat):Int):=by rw[aL YG];omega
   have t0:bg q=ZA (bQ q):=jA YG;have t1:bg (q+1)=ZA (bQ (q+1)):=jA YG;simp only[jT,d1,YC,t0,t1,hg,VE,w1,w2,wi,R2,decide_true,VK,YD]
  ·have d1:ZE ((n:Int)<((Co k n).length:Int))=false:=Yz (by simp[Dz])
   simp only[jT,d1,YD]
 rw[e0,hh];rfl
def QT(k:Int):bH:=⟨k,k+1,k+1+1,k+1+1+1⟩
def Cn(k:Int)(n:Nat):List bH:=(Wq n).map λi:Nat=>QT (k+4*(i:Int))
theorem Dy{n:Nat}:(Cn k n).length=n:=by simp[Cn]
theorem Zfs{n:Nat}:Cn k (n+1)=Cn k n++[QT (k+4*(n:Int))]:=by simp[Cn,WV]
theorem Nb(a:List bH)(k:Int)(ha:a.length<=1048576)(h0:1<=k)(h1:k<=1000000000):mG a k=ZA (k+4*a.length,Cn k a.length):=by
 unfold mG;have e0:(k,0,a)=(λi:Nat=>((k+4*(i:Int),(i:Int),Cn k i++a.drop i):Int×Int×List bH)) 0:=by simp[Cn]
 have hh:aD gU NN ((λi:Nat=>(k+4*(i:Int),(i:Int),Cn k i++a.drop i)) 0)=ZA ((k+4*a.length,Cn k a.length)):=by
  refine j4 (λi:Nat=>(k+4*(i:Int),(i:Int),Cn k i++a.drop i)) (n:=a.length) ?_ ?_ NN YI
  ·intro i hi
   have hL:i<(Cn k i++a.drop i).length:=by simp[Dy];omega
   generalize hq:k+4*(i:Int)=q;have IW:1<=q:=YG;have Ey:q<=1010000000:=YG;have vl:k+4*((i+1:Nat):Int)=q+1+1+1+1:=YG;have w1:aH (q+1)=q+1:=aL YG;have w2:aH (q+1+1)=q+1+1:=aL YG;have w3:aH (q+1+1+1)=q+1+1+1:=aL YG;have w4:aH (q+1+1+1+1)=q+1+1+1+1:=aL YG;have wi:aH ((i:Int)+1)=((i+1:Nat):Int):=by rw[aL YG];omega
   have d1:ZE ((i:Int)<((Cn k i++a.drop i).length:Int))=true:=Yp YG;have hs:=uM (v:=QT q) Dy (show i<a.length from hi) (M:=Cn k i);rw[Zfs,hq,vl];generalize Cn k i++a.drop i=L at *
   have gs:∀(xs:List bH) (v:bH),i<xs.length->aA (xs.set i v) (i:Int)=ZA v:=λxs v h=>tG h
   simp only[gU,d1,YC,jM hL,VE,w1,w2,w3,w4,wi,We,zp,gs,Ws,hL,Xn,<-hs];rfl
  ·have d1:ZE ((a.length:Int)<((Cn k a.length).length:Int))=false:=Yz (by simp[Dy])
   simp only[gU,WS,Wy,d1,YD]
 rw[e0,hh];rfl
theorem MF(k:Int)(n:Nat)(hn:n<=1048576)(h0:1<=k)(h1:k<=1000000000):kq (Cn k n) k=ZA (k+4*n):=by
 unfold kq;have e0:(k,0)=(λi:Nat=>((k+4*(i:Int),(i:Int)):Int×Int)) 0:=by simp
 have hh:aD (jQ (Cn k n)) NN ((λi:Nat=>(k+4*(i:Int),(i:Int))) 0)=ZA (W6 (k+4*n)):=by
  refine j4 (λi:Nat=>(k+4*(i:Int),(i:Int))) (n:=n) ?_ ?_ NN YI
  ·intro i hi
   have hL:i<(Cn k n).length:=by rw[Dy];exact hi
   have g:(Cn k n)[i]=QT (k+4*(i:Int)):=by simp[Cn]
   have hg:=jM hL;rw[g]at hg
   have d1:ZE ((i:Int)<((Cn k n).length:Int))=true:=Yp YG;have vl:k+4*((i+1:Nat):Int)=k+4*(i:Int)+1+1+1+1:=YG;rw[vl];generalize Cn k n=L at *
   have IW:1<=k+4*(i:Int):=YG;have Ey:k+4*(i:Int)<=1010000000:=YG;generalize k+4*(i:Int)=q at *
   have w1:aH (q+1)=q+1:=aL YG;have w2:aH (q+1+1)=q+1+1:=aL YG;have w3:aH (q+1+1+1)=q+1+1+1:=aL YG;have w4:aH (q+1+1+1+1)=q+1+1+1+1:=aL YG;have wi:aH ((i:Int)+1)=((i+1:Nat):Int):=by rw[aL YG];omega
   simp only[jQ,d1,YC,hg,VE,w1,w2,w3,w4,wi,QT,decide_true,VK,YD]
  ·have d1:ZE ((n:Int)<((Cn k n).length:Int))=false:=Yz (by simp[Dy])
   simp only[jQ,d1,YD]
 rw[e0,hh];rfl
def Qc(k:Int):aU:=⟨k,k+1,k+1+1,k+1+1+1⟩
def Cm(k:Int)(n:Nat):List aU:=(Wq n).map λi:Nat=>Qc (k+4*(i:Int))
theorem Dx{n:Nat}:(Cm k n).length=n:=by simp[Cm]
theorem Zfr{n:Nat}:Cm k (n+1)=Cm k n++[Qc (k+4*(n:Int))]:=by simp[Cm,WV]
theorem M6(a:List aU)(k:Int)(ha:a.length<=1048576)(h0:1<=k)(h1:k<=1000000000):mF a k=ZA (k+4*a.length,Cm k a.length):=by
 unfold mF;have e0:(k,0,a)=(λi:Nat=>((k+4*(i:Int),(i:Int),Cm k i++a.drop i):Int×Int×List aU)) 0:=by simp[Cm]
 have hh:aD gT NN ((λi:Nat=>(k+4*(i:Int),(i:Int),Cm k i++a.drop i)) 0)=ZA ((k+4*a.length,Cm k a.length)):=by
  refine j4 (λi:Nat=>(k+4*(i:Int),(i:Int),Cm k i++a.drop i)) (n:=a.length) ?_ ?_ NN YI
  ·intro i hi
   have hL:i<(Cm k i++a.drop i).length:=by simp[Dx];omega
   generalize hq:k+4*(i:Int)=q;have IW:1<=q:=YG;have Ey:q<=1010000000:=YG;have vl:k+4*((i+1:Nat):Int)=q+1+1+1+1:=YG;have w1:aH (q+1)=q+1:=aL YG;have w2:aH (q+1+1)=q+1+1:=aL YG;have w3:aH (q+1+1+1)=q+1+1+1:=aL YG;have w4:aH (q+1+1+1+1)=q+1+1+1+1:=aL YG;have wi:aH ((i:Int)+1)=((i+1:Nat):Int):=by rw[aL YG];omega
   have d1:ZE ((i:Int)<((Cm k i++a.drop i).length:Int))=true:=Yp YG;have hs:=uM (v:=Qc q) Dx (show i<a.length from hi) (M:=Cm k i);rw[Zfr,hq,vl];generalize Cm k i++a.drop i=L at *
   have gs:∀(xs:List aU) (v:aU),i<xs.length->aA (xs.set i v) (i:Int)=ZA v:=λxs v h=>tG h
   simp only[gT,d1,YC,jM hL,VE,w1,w2,w3,w4,wi,We,zp,gs,Ws,hL,Xn,<-hs];rfl
  ·have d1:ZE ((a.length:Int)<((Cm k a.length).length:Int))=false:=Yz (by simp[Dx])
   simp only[gT,WS,Wy,d1,YD]
 rw[e0,hh];rfl
theorem ME(k:Int)(n:Nat)(hn:n<=1048576)(h0:1<=k)(h1:k<=1000000000):kp (Cm k n) k=ZA (k+4*n):=by
 unfold kp;have e0:(k,0)=(λi:Nat=>((k+4*(i:Int),(i:Int)):Int×Int)) 0:=by simp
 have hh:aD (jP (Cm k n)) NN ((λi:Nat=>(k+4*(i:Int),(i:Int))) 0)=ZA (W6 (k+4*n)):=by
  refine j4 (λi:Nat=>(k+4*(i:Int),(i:Int))) (n:=n) ?_ ?_ NN YI
  ·intro i hi
   have hL:i<(Cm k n).length:=by rw[Dx];exact hi
   have g:(Cm k n)[i]=Qc (k+4*(i:Int)):=by simp[Cm]
   have hg:=jM hL;rw[g]at hg
   have d1:ZE ((i:Int)<((Cm k n).length:Int))=true:=Yp YG;have vl:k+4*((i+1:Nat):Int)=k+4*(i:Int)+1+1+1+1:=YG;rw[vl];generalize Cm k n=L at *
   have IW:1<=k+4*(i:Int):=YG;have Ey:k+4*(i:Int)<=1010000000:=YG;generalize k+4*(i:Int)=q at *
   have w1:aH (q+1)=q+1:=aL YG;have w2:aH (q+1+1)=q+1+1:=aL YG;have w3:aH (q+1+1+1)=q+1+1+1:=aL YG;have w4:aH (q+1+1+1+1)=q+1+1+1+1:=aL YG;have wi:aH ((i:Int)+1)=((i+1:Nat):Int):=by rw[aL YG];omega
   simp only[jP,d1,YC,hg,VE,w1,w2,w3,w4,wi,Qc,decide_true,VK,YD]
  ·have d1:ZE ((n:Int)<((Cm k n).length:Int))=false:=Yz (by simp[Dx])
   simp only[jP,d1,YD]
 rw[e0,hh];rfl
def pn(a:ZI)(k:Int):Option Int:=
 (kt a.world k).bind λy1=>
 cond (ZE (y1<0))
 (ZA (-1))
 ((ku a.aP y1).bind λy2=>
 cond (ZE (y2<0))
 (ZA (-1))
 ((kq a.aR y2).bind λy3=>
 cond (ZE (y3<0))
 (ZA (-1))
 ((eG a.aF y3).bind λy4=>
 cond (ZE (y4<0))
 (ZA (-1))
 ((iP a.aG y4).bind λy5=>
 cond (ZE (y5<0))
 (ZA (-1))
 ((kp a.lines y5).bind λy6=>
 cond (ZE (y6<0))
 (ZA (-1))
 ((lK a.aE y6).bind λy7=>
 cond (ZE (y7<0))
 (ZA (-1))
 (ZA y7)))))))
instance (a:ZI)(k:Int):CT prog (pn a k):=⟨19,[.ag (ZM a),vi k],[],λr=>vi r,λr=>[],cw (pn.eq_1 ..) func19 ntmps19 results19⟩
def kO0(x:ZI)(k:Int):Int:=k6W x.world k
def kO1(x:ZI)(k:Int):Int:=kO0 x k+2*x.aP.length
def kO2(x:ZI)(k:Int):Int:=kO1 x k+4*x.aR.length
def kO3(x:ZI)(k:Int):Int:=kO2 x k+x.aF.length
def kO4(x:ZI)(k:Int):Int:=vo (kO3 x k) x.aG
def kO5(x:ZI)(k:Int):Int:=kO4 x k+4*x.lines.length
def yc(x:ZI)(k:Int):Int:=tn (kO5 x k) x.aE
def Tu(x:ZI)(k:Int):ZI:=⟨Sh x.world k,Co (kO0 x k) x.aP.length,Cn (kO1 x k) x.aR.length,zD (kO2 x k) x.aF.length,xQ (kO3 x k) x.aG,Cm (kO4 x k) x.lines.length,xP (kO5 x k) x.aE⟩
structure gJ(x:ZI)(k:Int):Prop where
 world:KF x.world k
 aP:x.aP.length<=1048576
 aR:x.aR.length<=1048576
 xV:x.aF.length<=1048576
 aG:x.aG.length<=1048576
 bb:∀p∈x.aG,p.bb.length<=1048576
 lines:x.lines.length<=1048576
 aE:x.aE.length<=1048576
 Zdw:∀a∈x.aE,a.av.bb.length<=1048576
 top:yc x k<=900000000
theorem gJ.ks{x:ZI}{k:Int}(h:gJ x k):1<=kO0 x k/\kO0 x k<=kO1 x k/\kO1 x k<=kO2 x k/\kO2 x k<=kO3 x k/\kO3 x k<=kO4 x k/\kO4 x k<=kO5 x k/\kO5 x k<=yc x k:=by
 have h1:=h.world.ks;have h2:=h.world.low;have h3:=Nj (kO3 x k) x.aG;have h4:=Jg (kO5 x k) x.aE;unfold yc kO5 kO4 kO3 kO2 kO1 kO0 at *
 omega
theorem Ke(h:gJ x k):pn (Tu x k) k=ZA (yc x k):=by
 obtain⟨a1,a2,a3,a4,a5,a6,a7⟩:=h.ks;have ht:=h.top;have g0:kt (Tu x k).world k=ZA (kO0 x k):=MH h.world;have g1:ku (Tu x k).aP (kO0 x k)=ZA (kO1 x k):=MJ _ _ h.aP YG YG;have g2:kq (Tu x k).aR (kO1 x k)=ZA (kO2 x k):=MF _ _ h.aR YG YG;have g3:eG (Tu x k).aF (kO2 x k)=ZA (kO3 x k):=uA _ _ h.xV YG YG;have g4:iP (Tu x k).aG (kO3 x k)=ZA (kO4 x k):=IL _ _ h.aG h.bb YG (by show kO4 x k<=_;omega)
 have g5:kp (Tu x k).lines (kO4 x k)=ZA (kO5 x k):=ME _ _ h.lines YG YG;have g6:lK (Tu x k).aE (kO5 x k)=ZA (yc x k):=PD _ _ h.aE h.Zdw YG (by show yc x k<=_;omega)
 unfold pn;simp only[g0,g1,g2,g3,g4,g5,g6,VE];rw[Yz YG,Yz YG,Yz YG,Yz YG,Yz YG,Yz YG,Yz YG];rfl
set_option maxRecDepth 100000
theorem Eo{l:List bF}(h:cs∈l.map b6){p:PV}(hp:p∈cs):∃v,p=.v v:=by
 obtain⟨x,_,rfl⟩:=V6.1 h;simp only[b6,VM,VP,or_false]at hp
 repeat(first|(rcases hp with rfl|hp;exact⟨_,rfl⟩) |(subst hp;exact⟨_,rfl⟩))
theorem Zb9{w:World}{l:List bF}(hB:RB w 104 2 (l.map b6) B)(hl:l.length<=1048576)(h0:1<=k)(h1:k<=1000000000):
 Calls prog 72 #[B.sv,ZF ZG k] w λe w'=>e=.returned (ZF ZG (k+2*l.length))/\RB w' 104 2 ((Co k l.length).map b6) B/\mA (λb=>B.z=ZD/\b=B.b) w w':=by
 have hm:=Nd l k hl h0 h1;have hC:=CT.ok (P:=prog) hm;simp only[CT.f,CT.args,CT.m0,CT.res,CT.mem]at hC
 exact hC.mark (λcs gl p hp=>Eo gl hp) hB JV
theorem Em{l:List bH}(h:cs∈l.map b9){p:PV}(hp:p∈cs):∃v,p=.v v:=by
 obtain⟨x,_,rfl⟩:=V6.1 h;simp only[b9,VM,VP,or_false]at hp
 repeat(first|(rcases hp with rfl|hp;exact⟨_,rfl⟩) |(subst hp;exact⟨_,rfl⟩))
theorem Zb6{w:World}{l:List bH}(hB:RB w 107 4 (l.map b9) B)(hl:l.length<=1048576)(h0:1<=k)(h1:k<=1000000000):
 Calls prog 73 #[B.sv,ZF ZG k] w λe w'=>e=.returned (ZF ZG (k+4*l.length))/\RB w' 107 4 ((Cn k l.length).map b9) B/\mA (λb=>B.z=ZD/\b=B.b) w w':=by
 have hm:=Nb l k hl h0 h1;have hC:=CT.ok (P:=prog) hm;simp only[CT.f,CT.args,CT.m0,CT.res,CT.mem]at hC
 exact hC.mark (λcs gl p hp=>Em gl hp) hB JV
theorem El{l:List aU}(h:cs∈l.map bD){p:PV}(hp:p∈cs):∃v,p=.v v:=by
 obtain⟨x,_,rfl⟩:=V6.1 h;simp only[bD,VM,VP,or_false]at hp
 repeat(first|(rcases hp with rfl|hp;exact⟨_,rfl⟩) |(subst hp;exact⟨_,rfl⟩))
theorem Zb5{w:World}{l:List aU}(hB:RB w 111 4 (l.map bD) B)(hl:l.length<=1048576)(h0:1<=k)(h1:k<=1000000000):
 Calls prog 76 #[B.sv,ZF ZG k] w λe w'=>e=.returned (ZF ZG (k+4*l.length))/\RB w' 111 4 ((Cm k l.length).map bD) B/\mA (λb=>B.z=ZD/\b=B.b) w w':=by
 have hm:=M6 l k hl h0 h1;have hC:=CT.ok (P:=prog) hm;simp only[CT.f,CT.args,CT.m0,CT.res,CT.mem]at hC
 exact hC.mark (λcs gl p hp=>El gl hp) hB JV
structure ve where
 us:Nat->Value
 W:Nat->cL
 B0:cL
 B1:cL
 B3:cL
 B4:cL
 B5:cL
 B7:cL
 B8:cL
 Z:cL
 R:cL
 C:cL
 pu:Nat->Value
 pW:Nat->cL
 P:cL
 L:cL
 au:Nat->Value
 aW:Nat->cL
 A:cL
def xT(B:cL)(b:Nat):Prop:=B.z=ZD/\b=B.b
def ve.d(o:ve)(x:ZI):Nat->Nat->Prop
 |0=>GB x.world.ae o.W o.B0 o.B1 o.B3 o.B4 o.B5 o.B7 o.B8
 |1=>xT o.Z
 |2=>xT o.R
 |3=>xT o.C
 |4=>DP x.aG o.pW o.P
 |5=>xT o.L
 |6=>DA x.aE o.aW o.A
 |_=>λ_=>False
def ve.D(o:ve)(x:ZI)(b:Nat):Prop:=∃i,o.d x i b
structure GO(w:World)(x:ZI)(o:ve):Prop where
 gw:GW w x.world o.us o.W o.B0 o.B1 o.B3 o.B4 o.B5 o.B7 o.B8
 gd:GD x.world.ae.length o.W o.B0 o.B1 o.B3 o.B4 o.B5 o.B7 o.B8
 z:RB w 104 2 (x.aP.map b6) o.Z
 r:RB w 107 4 (x.aR.map b9) o.R
 c:RB w 3 1 (x.aF.map aI) o.C
 p:GP w x.aG o.pu o.pW o.P
 l:RB w 111 4 (x.lines.map bD) o.L
 j:GA w x.aE o.au o.aW o.A
 R9:∀i k,i≠k->∀q,o.d x i q->¬o.d x k q
theorem GO.lt{w:World}{x:ZI}{o:ve}(h:GO w x o){b:Nat}(hb:o.D x b):b<w.heap.size:=by
 obtain⟨i,hb⟩:=hb
 match i,hb with
 |0,hb=>exact h.gw.lt hb
 |1,hb=>obtain⟨hz,rfl⟩:=hb;exact RB.lt h.z hz
 |2,hb=>obtain⟨hz,rfl⟩:=hb;exact RB.lt h.r hz
 |3,hb=>obtain⟨hz,rfl⟩:=hb;exact RB.lt h.c hz
 |4,hb=>exact h.p.lt hb
 |5,hb=>obtain⟨hz,rfl⟩:=hb;exact RB.lt h.l hz
 |6,hb=>exact h.j.lt hb
 |i+7,hb=>exact hb.elim
theorem GO.cx{w w':World}{x:ZI}{o:ve}{O:Nat->Prop}(h:GO w x o)(hu:mA O w w')(hO:∀b,o.D x b->¬O b):GO w' x o:=
 { h with gw:=h.gw.cx hu λb hb=>hO b ⟨0,hb⟩,z:=h.z.cx hu λhz=>hO _ ⟨1,hz,rfl⟩,r:=h.r.cx hu λhz=>hO _ ⟨2,hz,rfl⟩,c:=h.c.cx hu λhz=>hO _ ⟨3,hz,rfl⟩,p:=h.p.cx hu λb hb=>hO b ⟨4,hb⟩,l:=h.l.cx hu λhz=>hO _ ⟨5,hz,rfl⟩,j:=h.j.cx hu λb hb=>hO b ⟨6,hb⟩}
theorem ve.O9{o:ve}{x y:ZI}(h0:y.world.ae.length=x.world.ae.length)(h4:y.aG.length=x.aG.length)(h6:y.aE.length=x.aE.length):o.d y=o.d x:=by
 funext i b
 match i with
 |0=>simp only[ve.d,GB,QW,h0]
 |1|2|3|5=>rfl
 |4=>simp only[ve.d,DP,QSP,h4]
 |6=>simp only[ve.d,DA,QSA,h6]
 |i+7=>rfl
theorem GO.part{w w':World}{o:ve}(h:GO w x o)(i:Nat)(hu:mA (o.d x i) w w'):
 (i≠0->GW w' x.world o.us o.W o.B0 o.B1 o.B3 o.B4 o.B5 o.B7 o.B8)/\(i≠1->RB w' 104 2 (x.aP.map b6) o.Z)/\(i≠2->RB w' 107 4 (x.aR.map b9) o.R)/\(i≠3->RB w' 3 1 (x.aF.map aI) o.C)/\(i≠4->GP w' x.aG o.pu o.pW o.P)/\(i≠5->RB w' 111 4 (x.lines.map bD) o.L)/\(i≠6->GA w' x.aE o.au o.aW o.A):=
 ⟨λe=>h.gw.cx hu λb hb=>h.R9 0 i (XA e) b hb,λe=>h.z.cx hu λhz=>h.R9 1 i (XA e) _ ⟨hz,rfl⟩,λe=>h.r.cx hu λhz=>h.R9 2 i (XA e) _ ⟨hz,rfl⟩,λe=>h.c.cx hu λhz=>h.R9 3 i (XA e) _ ⟨hz,rfl⟩,λe=>h.p.cx hu λb hb=>h.R9 4 i (XA e) b hb,λe=>h.l.cx hu λhz=>h.R9 5 i (XA e) _ ⟨hz,rfl⟩,λe=>h.j.cx hu λb hb=>h.R9 6 i (XA e) b hb⟩
theorem GO.st0{w w':World}{o:ve}(h:GO w x o)(n:GW w' (Sh x.world k) o.us o.W o.B0 o.B1 o.B3 o.B4 o.B5 o.B7 o.B8)(hu:mA (o.d x 0) w w'):GO w' ⟨Sh x.world k,x.aP,x.aR,x.aF,x.aG,x.lines,x.aE⟩ o/\o.d ⟨Sh x.world k,x.aP,x.aR,x.aF,x.aG,x.lines,x.aE⟩=o.d x:=by
 have hp:=h.part 0 hu;have hd:o.d ⟨Sh x.world k,x.aP,x.aR,x.aF,x.aG,x.lines,x.aE⟩=o.d x:=ve.O9 (vW _ _) rfl rfl;exact⟨⟨n,(by rw[show(Sh x.world k).ae.length=x.world.ae.length from vW _ _];exact h.gd),hp.2.1 YG,hp.2.2.1 YG,hp.2.2.2.1 YG,hp.2.2.2.2.1 YG,hp.2.2.2.2.2.1 YG,hp.2.2.2.2.2.2 YG,by rw[hd];exact h.R9⟩,hd⟩
theorem GO.st1{w w':World}{o:ve}(h:GO w x o)(n:RB w' 104 2 ((Co k x.aP.length).map b6) o.Z)(hu:mA (o.d x 1) w w'):GO w' ⟨x.world,Co k x.aP.length,x.aR,x.aF,x.aG,x.lines,x.aE⟩ o/\o.d ⟨x.world,Co k x.aP.length,x.aR,x.aF,x.aG,x.lines,x.aE⟩=o.d x:=by
 have hp:=h.part 1 hu;have hd:o.d ⟨x.world,Co k x.aP.length,x.aR,x.aF,x.aG,x.lines,x.aE⟩=o.d x:=ve.O9 rfl rfl rfl;exact⟨⟨hp.1 YG,h.gd,n,hp.2.2.1 YG,hp.2.2.2.1 YG,hp.2.2.2.2.1 YG,hp.2.2.2.2.2.1 YG,hp.2.2.2.2.2.2 YG,by rw[hd];exact h.R9⟩,hd⟩
theorem GO.st2{w w':World}{o:ve}(h:GO w x o)(n:RB w' 107 4 ((Cn k x.aR.length).map b9) o.R)(hu:mA (o.d x 2) w w'):GO w' ⟨x.world,x.aP,Cn k x.aR.length,x.aF,x.aG,x.lines,x.aE⟩ o/\o.d ⟨x.world,x.aP,Cn k x.aR.length,x.aF,x.aG,x.lines,x.aE⟩=o.d x:=by
 have hp:=h.part 2 hu;have hd:o.d ⟨x.world,x.aP,Cn k x.aR.length,x.aF,x.aG,x.lines,x.aE⟩=o.d x:=ve.O9 rfl rfl rfl;exact⟨⟨hp.1 YG,h.gd,hp.2.1 YG,n,hp.2.2.2.1 YG,hp.2.2.2.2.1 YG,hp.2.2.2.2.2.1 YG,hp.2.2.2.2.2.2 YG,by rw[hd];exact h.R9⟩,hd⟩
theorem GO.st3{w w':World}{o:ve}(h:GO w x o)(n:RB w' 3 1 ((zD k x.aF.length).map aI) o.C)(hu:mA (o.d x 3) w w'):GO w' ⟨x.world,x.aP,x.aR,zD k x.aF.length,x.aG,x.lines,x.aE⟩ o/\o.d ⟨x.world,x.aP,x.aR,zD k x.aF.length,x.aG,x.lines,x.aE⟩=o.d x:=by
 have hp:=h.part 3 hu;have hd:o.d ⟨x.world,x.aP,x.aR,zD k x.aF.length,x.aG,x.lines,x.aE⟩=o.d x:=ve.O9 rfl rfl rfl;exact⟨⟨hp.1 YG,h.gd,hp.2.1 YG,hp.2.2.1 YG,n,hp.2.2.2.2.1 YG,hp.2.2.2.2.2.1 YG,hp.2.2.2.2.2.2 YG,by rw[hd];exact h.R9⟩,hd⟩
theorem GO.st4{w w':World}{o:ve}(h:GO w x o)(n:GP w' (xQ k x.aG) o.pu o.pW o.P)(hu:mA (o.d x 4) w w'):GO w' ⟨x.world,x.aP,x.aR,x.aF,xQ k x.aG,x.lines,x.aE⟩ o/\o.d ⟨x.world,x.aP,x.aR,x.aF,xQ k x.aG,x.lines,x.aE⟩=o.d x:=by
 have hp:=h.part 4 hu;have hd:o.d ⟨x.world,x.aP,x.aR,x.aF,xQ k x.aG,x.lines,x.aE⟩=o.d x:=ve.O9 rfl (uJ _ _) rfl;exact⟨⟨hp.1 YG,h.gd,hp.2.1 YG,hp.2.2.1 YG,hp.2.2.2.1 YG,n,hp.2.2.2.2.2.1 YG,hp.2.2.2.2.2.2 YG,by rw[hd];exact h.R9⟩,hd⟩
theorem GO.st5{w w':World}{o:ve}(h:GO w x o)(n:RB w' 111 4 ((Cm k x.lines.length).map bD) o.L)(hu:mA (o.d x 5) w w'):GO w' ⟨x.world,x.aP,x.aR,x.aF,x.aG,Cm k x.lines.length,x.aE⟩ o/\o.d ⟨x.world,x.aP,x.aR,x.aF,x.aG,Cm k x.lines.length,x.aE⟩=o.d x:=by
 have hp:=h.part 5 hu;have hd:o.d ⟨x.world,x.aP,x.aR,x.aF,x.aG,Cm k x.lines.length,x.aE⟩=o.d x:=ve.O9 rfl rfl rfl;exact⟨⟨hp.1 YG,h.gd,hp.2.1 YG,hp.2.2.1 YG,hp.2.2.2.1 YG,hp.2.2.2.2.1 YG,n,hp.2.2.2.2.2.2 YG,by rw[hd];exact h.R9⟩,hd⟩
theorem GO.st6{w w':World}{o:ve}(h:GO w x o)(n:GA w' (xP k x.aE) o.au o.aW o.A)(hu:mA (o.d x 6) w w'):GO w' ⟨x.world,x.aP,x.aR,x.aF,x.aG,x.lines,xP k x.aE⟩ o/\o.d ⟨x.world,x.aP,x.aR,x.aF,x.aG,x.lines,xP k x.aE⟩=o.d x:=by
 have hp:=h.part 6 hu;have hd:o.d ⟨x.world,x.aP,x.aR,x.aF,x.aG,x.lines,xP k x.aE⟩=o.d x:=ve.O9 rfl rfl (uH _ _);exact⟨⟨hp.1 YG,h.gd,hp.2.1 YG,hp.2.2.1 YG,hp.2.2.2.1 YG,hp.2.2.2.2.1 YG,hp.2.2.2.2.2.1 YG,n,by rw[hd];exact h.R9⟩,hd⟩
structure ZjS(o:ve)(v0 v1 v3 v4 v5 v7 v8 v10 v11 v12 kB kC kD:Value):Prop where
 e0:v0=o.B0.sv
 e1:v1=o.B1.sv
 e3:v3=o.B3.sv
 e4:v4=o.B4.sv
 e5:v5=o.B5.sv
 e7:v7=o.B7.sv
 e8:v8=o.B8.sv
 e10:v10=o.Z.sv
 e11:v11=o.R.sv
 e12:v12=o.C.sv
 e13:kB=o.P.sv
 e14:kC=o.L.sv
 e15:kD=o.A.sv
theorem M7(v0 v1 v2 v3 v4 v5 v6 v7 v8 v9 v10 v11 v12 kB kC kD:Value){o:ve}(hv:ZjS o v0 v1 v3 v4 v5 v7 v8 v10 v11 v12 kB kC kD)(x:ZI)(k:Int)(w:World)(h:GO w x o)(hf:gJ x k):
 Calls prog 17 #[.agg #[v0,v1,v2,v3,v4,v5,v6,v7,v8,v9,v10,v11,v12,kB,kC,kD],ZF ZG k] w λe w'=>e=.returned (ZF ZG (yc x k))/\GO w' (Tu x k) o/\mA (o.D x) w w':=by
 obtain⟨a1,a2,a3,a4,a5,a6,a7⟩:=hf.ks;have ht:=hf.top;have Db:=hf.world.low;have u0:=mA.of (zf w (.cells #[v0,v1,v2,v3,v4,v5,v6,v7,v8,v9,v10,v11,v12,kB,kC,kD] 40));have h0:=h.cx u0 λ_ _ h=>h
 have hD:∀q,o.D x q->q≠w.heap.size:=λq hq=>by have:=h.lt hq;omega
 have d10:=jF w #[v0,v1,v2,v3,v4,v5,v6,v7,v8,v9,v10,v11,v12,kB,kC,kD] 40 (j:=10) rfl;have d11:=jF w #[v0,v1,v2,v3,v4,v5,v6,v7,v8,v9,v10,v11,v12,kB,kC,kD] 40 (j:=11) rfl;have d12:=jF w #[v0,v1,v2,v3,v4,v5,v6,v7,v8,v9,v10,v11,v12,kB,kC,kD] 40 (j:=12) rfl;have d13:=jF w #[v0,v1,v2,v3,v4,v5,v6,v7,v8,v9,v10,v11,v12,kB,kC,kD] 40 (j:=13) rfl;have d14:=jF w #[v0,v1,v2,v3,v4,v5,v6,v7,v8,v9,v10,v11,v12,kB,kC,kD] 40 (j:=14) rfl;have d15:=jF w #[v0,v1,v2,v3,v4,v5,v6,v7,v8,v9,v10,v11,v12,kB,kC,kD] 40 (j:=15) rfl;have HV:=Lib.hid hv;have HF:=Lib.hid hf;have HD:=Lib.hid hD;have U0:=Lib.hid (u0.more (O':=o.D x) λ_ h=>h.elim)
 have G0:=Lib.hid h0;have c0:=Qi v0 v1 v2 v3 v4 v5 v6 v7 v8 v9 hv.e0 hv.e1 hv.e3 hv.e4 hv.e5 hv.e7 hv.e8 _ k _ h0.gw h0.gd hf.world;have C0:=Lib.hid c0;clear c0 h0 u0 hv hD h hf;have D10:=Lib.hid d10;have D11:=Lib.hid d11;have D12:=Lib.hid d12;have D13:=Lib.hid d13;have D14:=Lib.hid d14;have D15:=Lib.hid d15;clear d10 d11 d12 d13 d14 d15;have d10:=D10.out;have d11:=D11.out;have d12:=D12.out;have d13:=D13.out;have d14:=D14.out;have d15:=D15.out
 go_enter func17,ntmps17
 go_wp2_with fail
 refine C0.out.mono ?_;rintro e w1 ⟨rfl,n1,q1⟩;obtain⟨g1,de1⟩:=G0.out.st0 n1 q1;rw[show k6W x.world k=kO0 x k from rfl];have t1:=U0.out.trans (q1.more (O':=o.D x) λb hb=>⟨0,hb⟩) λ_ _ h=>h
 have VA:¬o.d x 0 w.heap.size:=λhb=>HD.out _ ⟨0,hb⟩ rfl
 replace d10:=bC q1 d10 VA;replace d11:=bC q1 d11 VA;replace d12:=bC q1 d12 VA;replace d13:=bC q1 d13 VA;replace d14:=bC q1 d14 VA;replace d15:=bC q1 d15 VA;have c1:=Zb9 (l:=x.aP) (k:=kO0 x k) g1.z HF.out.aP YG YG;rw[<-HV.out.e10]at c1
 have C1:=Lib.hid c1;have T1:=Lib.hid t1;have G1:=Lib.hid g1;have DE1:=Lib.hid de1;clear c1 t1 VA g1 de1 q1 n1
 go_wp2_with fail
 refine C1.out.mono ?_;rintro e w2 ⟨rfl,n2,q2⟩;rw[show kO0 x k+2*(x.aP.length:Int)=kO1 x k from rfl];obtain⟨g2,ZoN⟩:=G1.out.st1 n2 (by rw[congrFun DE1.out 1];exact q2)
 have de2:=ZoN.trans DE1.out;clear d10;have t2:=T1.out.trans (q2.more (O':=o.D x) λb hb=>⟨1,hb⟩) λ_ _ h=>h
 have nb2:¬o.d x 1 w.heap.size:=λhb=>HD.out _ ⟨1,hb⟩ rfl
 replace d11:=bC q2 d11 nb2;replace d12:=bC q2 d12 nb2;replace d13:=bC q2 d13 nb2;replace d14:=bC q2 d14 nb2;replace d15:=bC q2 d15 nb2;have c2:=Zb6 (l:=x.aR) (k:=kO1 x k) g2.r HF.out.aR YG YG;rw[<-HV.out.e11]at c2
 have C2:=Lib.hid c2;have T2:=Lib.hid t2;have G2:=Lib.hid g2;have DE2:=Lib.hid de2;clear c2 t2 nb2 g2 de2 q2 n2
 go_wp2_with fail
 refine C2.out.mono ?_;rintro e w3 ⟨rfl,n3,q3⟩;rw[show kO1 x k+4*(x.aR.length:Int)=kO2 x k from rfl];obtain⟨g3,ZoO⟩:=G2.out.st2 n3 (by rw[congrFun DE2.out 2];exact q3)
 have de3:=ZoO.trans DE2.out;clear d11;have t3:=T2.out.trans (q3.more (O':=o.D x) λb hb=>⟨2,hb⟩) λ_ _ h=>h
 have nb3:¬o.d x 2 w.heap.size:=λhb=>HD.out _ ⟨2,hb⟩ rfl
 replace d12:=bC q3 d12 nb3;replace d13:=bC q3 d13 nb3;replace d14:=bC q3 d14 nb3;replace d15:=bC q3 d15 nb3;have c3:=zB (l:=x.aF) (k:=kO2 x k) g3.c HF.out.xV YG YG;rw[<-HV.out.e12]at c3
 have C3:=Lib.hid c3;have T3:=Lib.hid t3;have G3:=Lib.hid g3;have DE3:=Lib.hid de3;clear c3 t3 nb3 g3 de3 q3 n3
 go_wp2_with fail
 refine C3.out.mono ?_;rintro e w4 ⟨rfl,n4,q4⟩;rw[show kO2 x k+(x.aF.length:Int)=kO3 x k from rfl];obtain⟨g4,ZoP⟩:=G3.out.st3 n4 (by rw[congrFun DE3.out 3];exact q4)
 have de4:=ZoP.trans DE3.out;clear d12;have t4:=T3.out.trans (q4.more (O':=o.D x) λb hb=>⟨3,hb⟩) λ_ _ h=>h
 have nb4:¬o.d x 3 w.heap.size:=λhb=>HD.out _ ⟨3,hb⟩ rfl
 replace d13:=bC q4 d13 nb4;replace d14:=bC q4 d14 nb4;replace d15:=bC q4 d15 nb4;have c4:=GP.mark (os:=x.aG) (k:=kO3 x k) g4.p HF.out.aG HF.out.bb YG (by show kO4 x k<=_;omega)
 rw[<-HV.out.e13]at c4
 have C4:=Lib.hid c4;have T4:=Lib.hid t4;have G4:=Lib.hid g4;have DE4:=Lib.hid de4;clear c4 t4 nb4 g4 de4 q4 n4
 go_wp2_with fail
 refine C4.out.mono ?_;rintro e w5 ⟨rfl,n5,q5⟩;rw[show vo (kO3 x k) x.aG=kO4 x k from rfl];obtain⟨g5,ZoQ⟩:=G4.out.st4 n5 (by rw[congrFun DE4.out 4];exact q5)
 have de5:=ZoQ.trans DE4.out;clear d13;have t5:=T4.out.trans (q5.more (O':=o.D x) λb hb=>⟨4,hb⟩) λ_ _ h=>h
 have nb5:¬o.d x 4 w.heap.size:=λhb=>HD.out _ ⟨4,hb⟩ rfl
 replace d14:=bC q5 d14 nb5;replace d15:=bC q5 d15 nb5;have c5:=Zb5 (l:=x.lines) (k:=kO4 x k) g5.l HF.out.lines YG YG;rw[<-HV.out.e14]at c5
 have C5:=Lib.hid c5;have T5:=Lib.hid t5;have G5:=Lib.hid g5;have DE5:=Lib.hid de5;clear c5 t5 nb5 g5 de5 q5 n5
 go_wp2_with fail
 refine C5.out.mono ?_;rintro e w6 ⟨rfl,n6,q6⟩;rw[show kO4 x k+4*(x.lines.length:Int)=kO5 x k from rfl];obtain⟨g6,ZoR⟩:=G5.out.st5 n6 (by rw[congrFun DE5.out 5];exact q6)
 have de6:=ZoR.trans DE5.out;clear d14;have t6:=T5.out.trans (q6.more (O':=o.D x) λb hb=>⟨5,hb⟩) λ_ _ h=>h
 have nb6:¬o.d x 5 w.heap.size:=λhb=>HD.out _ ⟨5,hb⟩ rfl
 replace d15:=bC q6 d15 nb6;have c6:=GA.mark (os:=x.aE) (k:=kO5 x k) g6.j HF.out.aE HF.out.Zdw YG (by show yc x k<=_;omega)
 rw[<-HV.out.e15]at c6
 have C6:=Lib.hid c6;have T6:=Lib.hid t6;have G6:=Lib.hid g6;have DE6:=Lib.hid de6;clear c6 t6 nb6 g6 de6 q6 n6
 go_wp2_with fail
 refine C6.out.mono ?_;rintro e w7 ⟨rfl,n7,q7⟩;rw[show tn (kO5 x k) x.aE=yc x k from rfl];obtain⟨g7,ZmC⟩:=G6.out.st6 n7 (by rw[congrFun DE6.out 6];exact q7)
 have de7:=ZmC.trans DE6.out;clear d15;have t7:=T6.out.trans (q7.more (O':=o.D x) λb hb=>⟨6,hb⟩) λ_ _ h=>h
 have T7:=Lib.hid t7;have G7:=Lib.hid g7;clear t7 g7 n7 q7 de7 ZmC
 go_wp2_with fail
 go_ret
 exact⟨rfl,G7.out,T7.out⟩
def Zge(g:az):Mem:=[ZA ⟨.of 174,6,g.aa.aB.map br⟩,ZA ⟨.of 3,1,g.aa.off.map aI⟩,ZA ⟨⟨155,ZA 46⟩,11,g.ae.map aY⟩,ZA ⟨.of 177,4,g.aq.map aC⟩,ZA ⟨.of 46,2,g.ah.map aS⟩,ZA ⟨.of 181,6,g.aJ.map bt⟩,ZA ⟨.of 3,1,g.skip.map aI⟩]
theorem ZlM{w:World}{aK:List aw}(hr:cN w E (.sl (aK.map aS)) u){q:Key}(hk:aK≠[]->Ho w E 46 q (aK.map aS) u):∃B:cL,sy w aK u B/\(B.z=ZD->E.ω B.b q):=by
 have h:=hr.xp
 by_cases h0:aK=[]
 ·subst h0
  refine⟨⟨0,0,0,2,46,ZC⟩,.inl ⟨rfl,rfl,?_⟩,λh=>by cases h⟩
  generalize hq:PV.sl (([]:List aw).map aS)=p at h
  cases h with
  |nil A c=>exact⟨A,c,rfl⟩
  |sl es b off k c u hS J5 hn hm zq hc h1 hr=>
   obtain rfl:([]:List (List PV))=es:=by simpa using hq
   exact⟨_,_,rfl⟩
  |v=>cases hq
  |ud=>cases hq
  |un=>cases hq
  |rp=>cases hq
  |fn=>cases hq
 ·obtain⟨b,c,k,cs,rfl,hw,hh,hs,GU,xt,Kd,hlen⟩:=hk h0
  obtain⟨t,hx⟩:∃t,aK[0]?=ZA t:=⟨aK[0]'(List.length_pos_iff.2 h0),VF _⟩;have hk2:k=2:=by
   have:=hlen (aS t) (V6.2 ⟨t,VI hx,rfl⟩);exact this.symm
  subst hk2;rw[VX]at xt
  refine⟨⟨b,c,aK.length,2,46,ZD⟩,.inr ⟨rfl,by simp[cL.sv],rfl,by simp,rfl,Nat.zero_lt_two,xt,Kd,λi ds hi=>hlen ds (VI hi),λh=>YT,λ_=>⟨cs,hh,hs,λi ds j p hi hj=>?_⟩,λ_ h=>by cases h⟩,λ_=>hw⟩
  generalize hq:PV.sl (aK.map aS)=p0 at h
  generalize hu:Value.slice (ZA ⟨b,0,ZB⟩) (aK.map aS).length c=u0 at h
  cases h with
  |nil A c=>simp at hq;exact absurd hq h0
  |sl es b' off k' c' u hS J5 hn hm zq hc h1 hr=>
   obtain rfl:aK.map aS=es:=by simpa using hq
   have e:b=b'/\0=off:=by
    injection hu with e1 _ _
    injection e1 with e1
    injection e1 with e1 e2
    exact⟨e1,e2⟩
   obtain⟨rfl,rfl⟩:=e;have hk':2=k':=zq 0 (aS t) (by rw[List.getElem?_map,hx];rfl)
   subst hk';have h3:=hc i ds j p hi hj;rw[Nat.zero_add,cell_of_row w b _ cs _ (0,0) hh]at h3
   obtain⟨v,rfl⟩:=ZgF (VI hi) (VI hj);have h4:=hr i ds j _ hi hj;have h5:=h1 i ds j _ hi hj;have e6:u i j=v:=by cases h4;rfl
   rw[e6]at h3 h5
   exact⟨v,h3,h5,.c (.v _ h5)⟩
  |v=>cases hq
  |ud=>cases hq
  |un=>cases hq
  |rp=>cases hq
  |fn=>cases hq
theorem Zij{o:ay}{p:PV}(h:(cOU o u)[j]?=ZA p)(h6:j≠6):(∃v,p=.v v)/\(aY o)[j]?=ZA p:=by
 match j,h with
 |0,h|1,h|2,h|3,h|4,h|5,h|7,h|8,h|9,h|10,h=>obtain rfl:=VG h;exact⟨⟨_,rfl⟩,rfl⟩
 |6,h=>exact absurd rfl h6
 |j+11,h=>simp[cOU]at h
abbrev dV(w:World):Nat->Prop:=λb=>b<w.heap.size
theorem sr{b:Nat}:¬mz (λ_=>ZB) b:=by rintro⟨l,B,h,_⟩;cases h
theorem Ji(w:World):Ok w (mz λ_=>ZB) (E1 (dV w) (λ_=>ZB) 0) w []:=
 ⟨mA.refl _ _,λb h=>h,λl B h=>YT,λl l' B B' h=>YT,λl h=>absurd h (WE l),λl B h=>YT,λl mb h=>(by simp at h),λl B h=>YT,JV,λ_ _ h=>h.elim⟩
theorem wm{w w':World}{m:Mem}(h:Ok w (mz λ_=>ZB) E w' m):Up w w':=⟨h.up.os,h.up.tape,h.up.output,h.up.size,λb hb=>h.up.block b hb sr⟩
theorem cf.uU{w w':World}{p:PV}{x:Value}(h:cf w (dV w) p x)(hu:Up w w'):cf w' (dV w') p x:=
 h.ext (λb hb=>V4 hb hu.size) (λb o hb=>hu.cell (p:=⟨b,o,ZB⟩) hb)
variable {P:Program}
theorem ZnH{w:World}(hS:∀b,S b->b<w.heap.size):Ok w (mz λ_=>ZB) (E1 S (λ_=>ZB) 0) w []:=
 ⟨mA.refl _ _,hS,λl B h=>YT,λl l' B B' h=>YT,λl h=>absurd h (WE l),λl B h=>YT,λl mb h=>(by simp at h),λl B h=>YT,JV,λ_ _ h=>h.elim⟩
abbrev Zmd(S:Nat->Prop)(w w':World):Nat->Prop:=λb=>S b\/(w.heap.size<=b/\b<w'.heap.size)
structure Wr(g:Nat)(T:TypeId)(w1 w2:World)(cs:Array Value):Prop where
 row:w2.heap[g]?=ZA (.cells cs T (0,0))
 os:w2.os=w1.os
 tape:w2.tape=w1.tape
 output:w2.output=w1.output
 size:w2.heap.size=w1.heap.size
 tq:∀b,b≠g->w2.heap[b]?=w1.heap[b]?
theorem Wr.start{g:Nat}{T:TypeId}{w:World}{cs:Array Value}(h:w.heap[g]?=ZA (.cells cs T (0,0))):Wr g T w w cs:=⟨h,rfl,rfl,rfl,rfl,λ_ _=>rfl⟩
theorem Wr.set{g:Nat}{T:TypeId}{w1 w2:World}{cs:Array Value}(h:Wr g T w1 w2 cs)(j:Nat)(v:Value):Wr g T w1 (w2.setCell ⟨g,j,ZB⟩ v) (cs.setIfInBounds j v):=
 ⟨heap_setCell_same w2 g j cs T v h.row,h.os,h.tape,h.output,by rw[World.size_setCell];exact h.size,λb hb=>(heap_setCell_other w2 ⟨g,j,ZB⟩ b v hb).trans (h.tq b hb)⟩
theorem cf.wr{g:Nat}{T:TypeId}{w1 w2:World}{cs:Array Value}{p:PV}{x:Value}(h:cf w1 S p x)(k:Wr g T w1 w2 cs)(hS:∀b,S b->b≠g):cf w2 S p x:=
 h.ext (λ_ hb=>hb) (λb o hb=>cell_of_heap (k.tq b (hS b hb)))
end Go.Proofs.YtbalgkakkoocjaaGreat
namespace Go.Proofs.YtbalgkakkoocjaaGreat
set_option maxRecDepth 10000
open Go.RowKit
def qC(a:bM)(b:bM):Option Bool:=
 cond (!decide (a.ar=b.ar))
 (ZA ZD)
 (cond (!decide (a.aX=b.aX))
 (ZA ZD)
 (cond (!decide (a.start=b.start))
 (ZA ZD)
 (cond (!decide (a.oS=b.oS))
 (ZA ZD)
 (cond (!decide (a.AW=b.AW))
 (ZA ZD)
 (cond (!decide (a.jl=b.jl))
 (ZA ZD)
 (ZA ZC))))))
instance (a:bM)(b:bM):CT prog (qC a b):=⟨304,[.ag (br a),.ag (br b)],[],λr=>vb r,λr=>[],cw (qC.eq_1 ..) func304 ntmps304 results304⟩
def qE(a:bM):Option bM:=
 ZA a
instance (a:bM):CT prog (qE a):=⟨303,[.ag (br a)],[],λr=>.ag [vs r.ar,vs r.aX,vi r.start,vi r.oS,vi r.AW,vi r.jl],λr=>[],cw (qE.eq_1 ..) func303 ntmps303 results303⟩
def nS(a:bM)(left:Int):Option Int:=
 cond (ZE ((aH (left-(a.ar.size:Int)))<0))
 (ZA (-1))
 (cond (ZE ((aH ((aH (left-(a.ar.size:Int)))-(a.aX.size:Int)))<0))
 (ZA (-1))
 (ZA (aH ((aH (left-(a.ar.size:Int)))-(a.aX.size:Int)))))
instance (a:bM)(left:Int):CT prog (nS a left):=⟨280,[.ag (br a),vi left],[],λr=>vi r,λr=>[],cw (nS.eq_1 ..) func280 ntmps280 results280⟩
def tL(a:List bM)(b:List bM)(s0:Int):Option (Int⊕(Unit⊕Bool)):=
 cond (ZE (s0<(a.length:Int)))
 ((aA a s0).bind λy1=>
 (aA b s0).bind λy2=>
 (qC y1 y2).bind λy3=>
 cond (!y3)
 (ZA (.inr (.inr ZD)))
 (ZA (.inl (aH (s0+1)))))
 (ZA (.inr (.inl ())))
instance (a:List bM)(b:List bM):bj (tL a b):=⟨λs0=>(.sl (a.map br)::.sl (b.map br)::(U 3 (vi s0::(U 21 [])))),λs0=>[]⟩
def rn(a:List bM)(b:List bM):Option Bool:=
 cond (!decide ((a.length:Int)=(b.length:Int)))
 (ZA ZD)
 ((aD (tL a b) NN 0).bind (bm (λo0=>
 ZA ZC) (λr=>ZA r)))
instance (a:List bM)(b:List bM):CT prog (rn a b):=⟨248,[.sl (a.map br),.sl (b.map br)],[],λr=>vb r,λr=>[],cw (rn.eq_1 ..) func248 ntmps248 results248⟩
end Go.Proofs.YtbalgkakkoocjaaGreat
