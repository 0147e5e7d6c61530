/- A part of the proof of the statement in the last file of this claim: texts on the language of the program and on its functions. No condition. -/
import Derived.Test.YtmcdjilbkmhfoaaGreatCFnKept5
import Derived.Test.YtmcdjilbkmhfoaaGreatCFnKept1
import Derived.Sort.LotA
import Derived.Test.YtmcdjilbkmhfoaaGreatProg
import Derived.Shelf.SlSortFuncK.RowK2
import Derived.Shelf.GgSortFunc.SmallK
import Derived.Deep.DeepCutAuto
import Derived.Test.YtmcdjilbkmhfoaaGreatCFnKept4
import Derived.Test.YtmcdjilbkmhfoaaGreatCFnKept6
import Derived.Shelf.GgSortMore.Stable
import Derived.Test.YtmcdjilbkmhfoaaGreatCFnKept8
namespace Go.Proofs.YtmcdjilbkmhfoaaGreat
set_option maxRecDepth 10000
open Go.RowKit
set_option linter.unusedVariables false
theorem cutC_fnL {ρ : Nat → Option Nat} {m m' : Mem} {f : FuncId} {cs ds : List PV} (h : cutL ρ m m' cs ds) : CutC ρ m m' (.fn f cs) (.fn f ds) := by
  have key : ∀ (cs ds : List PV), cutL ρ m m' cs ds → ds.length = cs.length ∧ ∀ (j : Nat) (p r : PV), cs[j]? = some p → ds[j]? = some r → CutC ρ m m' p r := by
    intro cs
    induction cs with
    | nil => intro ds h; cases ds with
      | nil => exact ⟨rfl, by simp⟩
      | cons d ds => exact h.elim
    | cons c cs ih => intro ds h; cases ds with
      | nil => exact h.elim
      | cons d ds =>
        obtain ⟨h1, h2⟩ := h
        obtain ⟨k1, k2⟩ := ih ds h2
        refine ⟨by simp [k1], fun j p r hp hr => ?_⟩
        cases j with
        | zero => simp at hp hr; subst hp hr; exact h1
        | succ j => simp at hp hr; exact k2 j p r hp hr
  obtain ⟨a, b⟩ := key cs ds h
  exact .fn f cs ds a b
theorem idxmapN {α : Type} {xs : List α} {n : Nat} {y : α} {c : α → List PV} (h : getI xs (n : Int) = some y) : (xs.map c)[n]? = some (c y) := by
  unfold getI at h
  rw [if_pos (Int.natCast_nonneg n), Int.toNat_natCast] at h
  rw [List.getElem?_map, h]; rfl
theorem lit3 {a b c i y : Int} (h : getI [a, b, c] i = some y) : ([[PV.v (.int .i64 a)], [PV.v (.int .i64 b)], [PV.v (.int .i64 c)]] : List (List PV))[i.toNat]? = some [PV.v (.int .i64 y)] := by
  have : ([[PV.v (.int .i64 a)], [PV.v (.int .i64 b)], [PV.v (.int .i64 c)]] : List (List PV)) = [a, b, c].map cInt := rfl
  rw [this]; exact idxmap h
theorem pDyn_fn {P : Program} {io : Bool} {wd ν : Nat} {f : FuncId} {cs ps : List PV} {m : Mem} {K : PV → Mem → Prop} (h1 : ∀ c ∈ cs, isR c = true) (h2 : isFn P f) (h3 : pCall P io wd ν f (ps ++ cs) m K) : pDyn P io wd ν (.fn f cs) ps m K := ⟨h1, h2, h3⟩
def cIntS (x : List Int) : List PV := [.sl (x.map cInt)]
instance : EncOf (List Int) := ⟨cIntS⟩
instance : PlainC cIntS := ⟨fun x q h => by simp only [cIntS, List.mem_singleton] at h; subst h; rfl⟩
attribute [go_sem] cIntS
theorem wk3 {p : Prop} (h : p := by
  (simp only [List.length_cons, List.length_nil, Nat.reduceAdd, Nat.reduceSub, List.replicate_succ, List.replicate_zero, List.cons_append, List.nil_append, go_sem]);
  repeat' (first
    | ((with_reducible refine pDyn_fn ?_ ?_ ?_); (focus (simp [isR])); (focus (simp only [go_sem])); (simp only [List.cons_append, List.nil_append]))
    | ((with_reducible refine pwp_drwL H rfl (by kernel_rfl) ?_); (clear H; intro H; simp only [go_sem, Nat.reduceAdd, Nat.reduceSub, Nat.reduceMul, Nat.reduceLT, Nat.reduceLeDiff, Nat.reduceEqDiff, if_true, eq_self]))
    | ((with_reducible refine rhoSD (rhoH H) ?_); (refine call_ioD H rfl rfl ?_ ?_ ?_ ?_ ?_ ?_ ?_ ?_); (focus (first | rfl | (simp only [CT.args, List.map_cons, List.map_nil, renA, renC, ren1, sig_z, sig_s, sig_n]; done))); (focus (simp [CT.args, CT.m0, goodA, goodC, lowA, lowC, low1, isR])); (focus (first | exact List.nodup_nil | decide)); (focus ((simp only [CT.m0]); (repeat' (first | exact inRows_nil | (refine inRows_map (by rfl) ?_) | (refine inRows_one (by rfl) (by rfl) (by simp [goodC, lowC, low1, isR]) ?_))))); (focus (intro y_; simp [CT.mem, CT.m0])); (focus (intro y_; (simp only [CT.mem]); (repeat (first | exact hm_nil | exact hm_one | exact hm_oneT | (refine hm_c hm_one ?_) | (refine hm_c (goodD_cells (by simp [goodC, isR])) ?_) | exact goodD_cells (by simp [goodC, isR]) | (refine hm_none ?_))))); (focus (intro y_; (simp [CT.res, goodV, goodA, goodC, isR]))); (clear H; intro y_ hy H; simp only [CT.res, CT.mem, putIn, List.drop_succ_cons, List.drop_zero, Option.map_none, go_sem, Nat.reduceAdd, Nat.reduceSub, Nat.reduceMul, Nat.reduceLT, Nat.reduceLeDiff, Nat.reduceEqDiff, if_true, eq_self]))
    | ((with_reducible refine jnS (jnH H) ?_); (first | ((refine pwp_jn2 H ?_ ?_ (fun K_ hL H => ?_) (fun o_ H => ?_)); (focus (decide +kernel)); (focus (decide +kernel))) | ((refine pwp_jn H ?_ ?_ (fun K_ hL H => ?_) (fun o_ H => ?_)); (focus (decide +kernel)); (focus (decide +kernel)))))
    | ((with_reducible refine rhoS (rhoH H) ?_); (refine call_io H rfl rfl rfl ?_ ?_ ?_ ?_ ?_ ?_ ?_ ?_); (focus (first | rfl | (simp only [CT.args, List.map_cons, List.map_nil, renA, renC, ren1, sig_z, sig_s, sig_n]; done))); (focus (simp [CT.args, CT.m0, goodA, goodC, lowA, lowC, low1, isR])); (focus (first | exact List.nodup_nil | decide)); (focus ((simp only [CT.m0]); (repeat' (first | exact inRows_nil | (refine inRows_map (by rfl) ?_) | (refine inRows_one (by rfl) (by rfl) (by simp [goodC, lowC, low1, isR]) ?_))))); (focus (intro y_; simp [CT.mem, CT.m0])); (focus (intro y_; (simp only [CT.mem]); (repeat (first | exact hm_nil | exact hm_one | exact hm_oneT | (refine hm_c hm_one ?_) | (refine hm_c (goodD_cells (by simp [goodC, isR])) ?_) | exact goodD_cells (by simp [goodC, isR]) | (refine hm_none ?_))))); (focus (intro y_; (simp [CT.res, goodV, goodA, goodC, isR]))); (clear H; intro y_ hy H; simp only [CT.res, CT.mem, putIn, List.drop_succ_cons, List.drop_zero, Option.map_none, go_sem, Nat.reduceAdd, Nat.reduceSub, Nat.reduceMul, Nat.reduceLT, Nat.reduceLeDiff, Nat.reduceEqDiff, if_true, eq_self]))
    | ((with_reducible refine pwp_frzL H ?_ ?_); (focus ((with_reducible refine cutS ?_); (first | (with_reducible apply cutL_0) | (with_reducible apply cutL_1) | (with_reducible apply cutL_2) | (with_reducible apply cutL_3) | (with_reducible apply cutL_4) | (with_reducible apply cutL_5) | (with_reducible apply cutL_6) | (with_reducible apply cutL_7) | (with_reducible apply cutL_8) | (with_reducible apply cutL_9) | (with_reducible apply cutL_10) | (with_reducible apply cutL_11) | (with_reducible apply cutL_12)); (repeat' (first       | (exact lowB_0) | (refine lowB_c ?_) | (refine lowB_d ?_) | (with_reducible refine cutT_un ?_)       | (with_reducible refine cutT_c ?_ ?_)       | (with_reducible exact cutT_nil)       | (with_reducible exact cutV_c rfl)       | exact cutV_c rfl       | (with_reducible exact cutL_nil)       | (with_reducible refine cutL_c ?_ ?_)       | exact .c _ rfl       | exact .un _       | exact cutC_ms rfl rfl       | exact cutC_be rfl rfl       | exact cutC_nilsl0 | exact cutC_nilsl       | exact cutC_nilms rfl rfl       | (refine cutC_fms rfl ?_) | (refine cutC_fmso rfl rfl ?_) | (refine cutC_fss rfl rfl rfl ?_)       | (refine cutC_fbe rfl rfl ?_)       | (with_reducible refine cutC_fnL ?_) | (with_reducible refine cutV_ag ?_)       | (with_reducible refine cutV_tu ?_)       | (with_reducible exact cutAs_nil)       | (with_reducible refine cutAs_c ?_ ?_)       | (with_reducible refine cutA_ag ?_)       | (with_reducible refine cutA_k ?_)       | (with_reducible refine cutV_k ?_)       | (with_reducible exact rowsOk_nil)       | (refine rowsOk_live rfl ?_ ?_)       | (refine rowsOk_new0 rfl ?_) | (refine rowsOk_new rfl ?_)       | (with_reducible refine rowsOk_dead ?_)       | (with_reducible refine cutB_one ?_)       | (with_reducible exact cutB_nil)       | (with_reducible refine cutB_two ?_)       | (with_reducible exact cutE_n)       | (with_reducible refine cutE_c ?_ ?_)       | (with_reducible exact cutB_same)       | (with_reducible refine cutB_set ?_)       | exact cutB_same       | (refine cutB_set ?_)       | (refine cutB_rep ?_)       | (refine cutB_snoc ?_)       | (simp only [cInt, cStr, cBool, cB8, cl1Cur, cLabel, cParcel, cZone, cRate, cLeg, cNetwork, cTrip, cBooking, cScan, cOrder, cWorld, cLine, cAct, cOffice, cItem, cChute, cInlet, cCentre, cThing, cBelief])       | (with_unfolding_all rfl))); (all_goals first | (exact dropped_of rfl) | exact none))); (clear H; intro z_ H))
    | ((with_reducible refine pwp_frz H ?_ ?_); (focus ((with_reducible refine cutS ?_); (first | (with_reducible apply cutL_0) | (with_reducible apply cutL_1) | (with_reducible apply cutL_2) | (with_reducible apply cutL_3) | (with_reducible apply cutL_4) | (with_reducible apply cutL_5) | (with_reducible apply cutL_6) | (with_reducible apply cutL_7) | (with_reducible apply cutL_8) | (with_reducible apply cutL_9) | (with_reducible apply cutL_10) | (with_reducible apply cutL_11) | (with_reducible apply cutL_12)); (repeat' (first       | (exact lowB_0) | (refine lowB_c ?_) | (refine lowB_d ?_) | (with_reducible refine cutT_un ?_)       | (with_reducible refine cutT_c ?_ ?_)       | (with_reducible exact cutT_nil)       | (with_reducible exact cutV_c rfl)       | exact cutV_c rfl       | (with_reducible exact cutL_nil)       | (with_reducible refine cutL_c ?_ ?_)       | exact .c _ rfl       | exact .un _       | exact cutC_ms rfl rfl       | exact cutC_be rfl rfl       | exact cutC_nilsl0 | exact cutC_nilsl       | exact cutC_nilms rfl rfl       | (refine cutC_fms rfl ?_) | (refine cutC_fmso rfl rfl ?_) | (refine cutC_fss rfl rfl rfl ?_)       | (refine cutC_fbe rfl rfl ?_)       | (with_reducible refine cutC_fnL ?_) | (with_reducible refine cutV_ag ?_)       | (with_reducible refine cutV_tu ?_)       | (with_reducible exact cutAs_nil)       | (with_reducible refine cutAs_c ?_ ?_)       | (with_reducible refine cutA_ag ?_)       | (with_reducible refine cutA_k ?_)       | (with_reducible refine cutV_k ?_)       | (with_reducible exact rowsOk_nil)       | (refine rowsOk_live rfl ?_ ?_)       | (refine rowsOk_new0 rfl ?_) | (refine rowsOk_new rfl ?_)       | (with_reducible refine rowsOk_dead ?_)       | (with_reducible refine cutB_one ?_)       | (with_reducible exact cutB_nil)       | (with_reducible refine cutB_two ?_)       | (with_reducible exact cutE_n)       | (with_reducible refine cutE_c ?_ ?_)       | (with_reducible exact cutB_same)       | (with_reducible refine cutB_set ?_)       | exact cutB_same       | (refine cutB_set ?_)       | (refine cutB_rep ?_)       | (refine cutB_snoc ?_)       | (simp only [cInt, cStr, cBool, cB8, cl1Cur, cLabel, cParcel, cZone, cRate, cLeg, cNetwork, cTrip, cBooking, cScan, cOrder, cWorld, cLine, cAct, cOffice, cItem, cChute, cInlet, cCentre, cThing, cBelief])       | (with_unfolding_all rfl))); (all_goals first | (exact dropped_of rfl) | exact none))); (clear H; intro H))
    | ((with_reducible refine pwp_seq ?_); intro K_ hK)
    | ((with_reducible refine pwp_block ?_))
    | ((with_reducible refine pwp_region ?_); simp only [go_sem, Nat.reduceAdd, Nat.reduceSub, Nat.reduceMul, Nat.reduceLT, Nat.reduceLeDiff, Nat.reduceEqDiff, if_true, eq_self])
    | ((with_reducible refine pwp_skip ?_); (try simp only [thenP_normal, blockP_normal]))
    | ((with_reducible refine pwp_exit ?_); (simp only [thenP_exit, blockP_exit, thenP_normal, blockP_normal, if_true, if_false, eq_self, Nat.reduceEqDiff, Nat.one_ne_zero, Nat.zero_ne_one]); (try simp only [bexR, bsr, bsl] at H))
    | ((with_reducible refine pwp_ret ?_); (try simp only [thenP_ret, blockP_ret]))
    | ((with_reducible refine hQ _ _ ?_); (try simp only [bexR, bsr, bsl] at H); replace H := Hret H; subst H; simp only [Fin, resP, oneP, go_sem, Nat.reduceAdd, Nat.reduceSub, Nat.reduceMul, Nat.reduceLT, Nat.reduceLeDiff, Nat.reduceEqDiff, if_true, eq_self]; (with_reducible refine cutS ?_); (first | (with_reducible apply cutL_0) | (with_reducible apply cutL_1) | (with_reducible apply cutL_2) | (with_reducible apply cutL_3) | (with_reducible apply cutL_4) | (with_reducible apply cutL_5) | (with_reducible apply cutL_6) | (with_reducible apply cutL_7) | (with_reducible apply cutL_8) | (with_reducible apply cutL_9) | (with_reducible apply cutL_10) | (with_reducible apply cutL_11) | (with_reducible apply cutL_12)); (repeat' (first       | (exact lowB_0) | (refine lowB_c ?_) | (refine lowB_d ?_) | (with_reducible refine cutT_un ?_)       | (with_reducible refine cutT_c ?_ ?_)       | (with_reducible exact cutT_nil)       | (with_reducible exact cutV_c rfl)       | exact cutV_c rfl       | (with_reducible exact cutL_nil)       | (with_reducible refine cutL_c ?_ ?_)       | exact .c _ rfl       | exact .un _       | exact cutC_ms rfl rfl       | exact cutC_be rfl rfl       | exact cutC_nilsl0 | exact cutC_nilsl       | exact cutC_nilms rfl rfl       | (refine cutC_fms rfl ?_) | (refine cutC_fmso rfl rfl ?_) | (refine cutC_fss rfl rfl rfl ?_)       | (refine cutC_fbe rfl rfl ?_)       | (with_reducible refine cutC_fnL ?_) | (with_reducible refine cutV_ag ?_)       | (with_reducible refine cutV_tu ?_)       | (with_reducible exact cutAs_nil)       | (with_reducible refine cutAs_c ?_ ?_)       | (with_reducible refine cutA_ag ?_)       | (with_reducible refine cutA_k ?_)       | (with_reducible refine cutV_k ?_)       | (with_reducible exact rowsOk_nil)       | (refine rowsOk_live rfl ?_ ?_)       | (refine rowsOk_new0 rfl ?_) | (refine rowsOk_new rfl ?_)       | (with_reducible refine rowsOk_dead ?_)       | (with_reducible refine cutB_one ?_)       | (with_reducible exact cutB_nil)       | (with_reducible refine cutB_two ?_)       | (with_reducible exact cutE_n)       | (with_reducible refine cutE_c ?_ ?_)       | (with_reducible exact cutB_same)       | (with_reducible refine cutB_set ?_)       | exact cutB_same       | (refine cutB_set ?_)       | (refine cutB_rep ?_)       | (refine cutB_snoc ?_)       | (simp only [cInt, cStr, cBool, cB8, cl1Cur, cLabel, cParcel, cZone, cRate, cLeg, cNetwork, cTrip, cBooking, cScan, cOrder, cWorld, cLine, cAct, cOffice, cItem, cChute, cInlet, cCentre, cThing, cBelief])       | (with_unfolding_all rfl))); (all_goals first | (exact dropped_of rfl) | exact none))
    | ((with_reducible refine hQn _ _ ?_); (try simp only [bexR, bsr, bsl] at H); replace H := Hret H; subst H; simp only [Fin, resP, oneP, go_sem, Nat.reduceAdd, Nat.reduceSub, Nat.reduceMul, Nat.reduceLT, Nat.reduceLeDiff, Nat.reduceEqDiff, if_true, eq_self]; (with_reducible refine cutS ?_); (first | (with_reducible apply cutL_0) | (with_reducible apply cutL_1) | (with_reducible apply cutL_2) | (with_reducible apply cutL_3) | (with_reducible apply cutL_4) | (with_reducible apply cutL_5) | (with_reducible apply cutL_6) | (with_reducible apply cutL_7) | (with_reducible apply cutL_8) | (with_reducible apply cutL_9) | (with_reducible apply cutL_10) | (with_reducible apply cutL_11) | (with_reducible apply cutL_12)); (repeat' (first       | (exact lowB_0) | (refine lowB_c ?_) | (refine lowB_d ?_) | (with_reducible refine cutT_un ?_)       | (with_reducible refine cutT_c ?_ ?_)       | (with_reducible exact cutT_nil)       | (with_reducible exact cutV_c rfl)       | exact cutV_c rfl       | (with_reducible exact cutL_nil)       | (with_reducible refine cutL_c ?_ ?_)       | exact .c _ rfl       | exact .un _       | exact cutC_ms rfl rfl       | exact cutC_be rfl rfl       | exact cutC_nilsl0 | exact cutC_nilsl       | exact cutC_nilms rfl rfl       | (refine cutC_fms rfl ?_) | (refine cutC_fmso rfl rfl ?_) | (refine cutC_fss rfl rfl rfl ?_)       | (refine cutC_fbe rfl rfl ?_)       | (with_reducible refine cutC_fnL ?_) | (with_reducible refine cutV_ag ?_)       | (with_reducible refine cutV_tu ?_)       | (with_reducible exact cutAs_nil)       | (with_reducible refine cutAs_c ?_ ?_)       | (with_reducible refine cutA_ag ?_)       | (with_reducible refine cutA_k ?_)       | (with_reducible refine cutV_k ?_)       | (with_reducible exact rowsOk_nil)       | (refine rowsOk_live rfl ?_ ?_)       | (refine rowsOk_new0 rfl ?_) | (refine rowsOk_new rfl ?_)       | (with_reducible refine rowsOk_dead ?_)       | (with_reducible refine cutB_one ?_)       | (with_reducible exact cutB_nil)       | (with_reducible refine cutB_two ?_)       | (with_reducible exact cutE_n)       | (with_reducible refine cutE_c ?_ ?_)       | (with_reducible exact cutB_same)       | (with_reducible refine cutB_set ?_)       | exact cutB_same       | (refine cutB_set ?_)       | (refine cutB_rep ?_)       | (refine cutB_snoc ?_)       | (simp only [cInt, cStr, cBool, cB8, cl1Cur, cLabel, cParcel, cZone, cRate, cLeg, cNetwork, cTrip, cBooking, cScan, cOrder, cWorld, cLine, cAct, cOffice, cItem, cChute, cInlet, cCentre, cThing, cBelief])       | (with_unfolding_all rfl))); (all_goals first | (exact dropped_of rfl) | exact none))
    | ((with_reducible refine gateS ?_); (refine gate2_intro (fun hg => Hc1k H hg ?_) (fun hg => Hc2k H hg ?_)) <;> (clear H; intro H; simp only [go_sem, Nat.reduceAdd, Nat.reduceSub, Nat.reduceMul, Nat.reduceLT, Nat.reduceLeDiff, Nat.reduceEqDiff, if_true, eq_self]))
    | ((with_reducible refine pwp_condE ?_); simp only [evP_tmp, getD_z, getD_s, evP_bool]; (first | (with_reducible refine condP_tt ?_) | (with_reducible refine condP_ff ?_) | ((refine condP_intro (fun hg => Hc1k H hg ?_) (fun hg => Hc2k H hg ?_)) <;> (clear H; intro H))))
    | ((with_reducible refine idxS ?_); replace H := Hcall H; obtain ⟨y_, hy, H⟩ := H; (with_reducible apply idx_sl hy); (focus (first | (simp only [go_sem]; done) | (simp only [go_sem]; decide))); (focus (first | rfl | (simp only [go_sem]; rfl))); simp only [go_sem, Nat.reduceAdd, Nat.reduceSub, Nat.reduceMul, Nat.reduceLT, Nat.reduceLeDiff, Nat.reduceEqDiff, if_true, eq_self])
    | ((with_reducible refine idxM ?_); replace H := Hcall H; obtain ⟨y_, hy, H⟩ := H; (first | (refine idx_msb hy (by rfl) (by first | (simp only [go_sem]; done) | (simp only [go_sem]; decide)) (by first | rfl | (simp only [go_sem]; rfl)) ?_) | (refine idx_msov hy (by rfl) (by first | (simp only [go_sem]; done) | (simp only [go_sem]; decide)) (by first | rfl | (simp only [go_sem]; rfl)) ?_)); simp only [go_sem, Nat.reduceAdd, Nat.reduceSub, Nat.reduceMul, Nat.reduceLT, Nat.reduceLeDiff, Nat.reduceEqDiff, if_true, eq_self])
    | ((with_reducible refine idxB ?_); replace H := Hcall H; obtain ⟨y_, hy, H⟩ := H; (with_reducible apply idx_str hy); (focus (simp only [go_sem])); simp only [go_sem, Nat.reduceAdd, Nat.reduceSub, Nat.reduceMul, Nat.reduceLT, Nat.reduceLeDiff, Nat.reduceEqDiff, if_true, eq_self])
    | ((with_reducible refine callS ?_); replace H := Hcall H; obtain ⟨y_, hy, H⟩ := H; (first | ((with_reducible apply call_deep); (focus (exact CT.ok hy)); (focus (simp [isCA, isC, isC1])); (focus (exact Nat.le_of_ble_eq_true rfl)); (focus (first | exact hm_nil | (repeat (first | exact hm_one | exact hm_oneT | exact hm_e | (refine hm_c hm_one ?_) | (refine hm_c hm_oneT ?_) | (refine hm_c hm_e ?_) | exact goodD_cells (by simp [goodC, isR]) | (refine hm_none ?_) | (refine hm_c (goodD_cells (by simp [goodC, isR])) ?_))))); (focus (first | exact gV_ag rfl | exact gV_tu rfl | exact gV_agM rfl | exact gV_tuM rfl | exact (fun h => (by cases h)) | (simp [CT.res, goodV, goodA, goodC, isR]))); (simp only [CT.res, CT.mem, go_sem, Nat.reduceAdd, Nat.reduceSub, Nat.reduceMul, Nat.reduceLT, Nat.reduceLeDiff, Nat.reduceEqDiff, if_true, eq_self])) | ((with_reducible apply call_deep); (focus ((refine CallM.weak (CT.ok hy) ?_); (repeat' (first | exact SubA.n | (refine SubA.c ?_ ?_) | exact SubV.c (SubC.r _) | (refine SubV.ag ?_) | exact SubL.n | (refine SubL.c ?_ ?_) | exact SubC.r _ | exact SubC.nil _)))); (focus (simp [isCA, isC, isC1])); (focus (exact Nat.le_of_ble_eq_true rfl)); (focus (first | exact hm_nil | (repeat (first | exact hm_one | exact hm_oneT | exact hm_e | (refine hm_c hm_one ?_) | (refine hm_c hm_oneT ?_) | (refine hm_c hm_e ?_) | exact goodD_cells (by simp [goodC, isR]) | (refine hm_none ?_) | (refine hm_c (goodD_cells (by simp [goodC, isR])) ?_))))); (focus (first | exact gV_ag rfl | exact gV_tu rfl | exact gV_agM rfl | exact gV_tuM rfl | exact (fun h => (by cases h)) | (simp [CT.res, goodV, goodA, goodC, isR]))); (simp only [CT.res, CT.mem, go_sem, Nat.reduceAdd, Nat.reduceSub, Nat.reduceMul, Nat.reduceLT, Nat.reduceLeDiff, Nat.reduceEqDiff, if_true, eq_self])) | ((with_reducible apply call_flat); (focus (first | (simp only [snapA, snapV, snapC, snapL, live_look, look_z, look_s, rowQ_map, drop_mp, take_mp, List.forall_mem_nil, true_and, and_true]; (first | exact CT.ok hy | (simp only [all_nil, all_cons, isC, isC1, true_and, and_true]; exact CT.ok hy))) | (simp only [snapA, snapV, snapC, snapL, live_look, look_z, look_s, rowQ_map, drop_mp, take_mp, List.forall_mem_nil, true_and, and_true]; (first | ((refine CallM.weak (CT.ok hy) ?_); (repeat' (first | exact SubA.n | (refine SubA.c ?_ ?_) | exact SubV.c (SubC.r _) | (refine SubV.ag ?_) | exact SubL.n | (refine SubL.c ?_ ?_) | exact SubC.r _ | exact SubC.nil _))) | (simp only [all_nil, all_cons, isC, isC1, true_and, and_true]; ((refine CallM.weak (CT.ok hy) ?_); (repeat' (first | exact SubA.n | (refine SubA.c ?_ ?_) | exact SubV.c (SubC.r _) | (refine SubV.ag ?_) | exact SubL.n | (refine SubL.c ?_ ?_) | exact SubC.r _ | exact SubC.nil _)))))))); (focus (exact Nat.le_of_ble_eq_true rfl)); (focus (first | exact hm_nil | (repeat (first | exact hm_one | exact hm_oneT | exact hm_e | (refine hm_c hm_one ?_) | (refine hm_c hm_oneT ?_) | (refine hm_c hm_e ?_) | exact goodD_cells (by simp [goodC, isR]) | (refine hm_none ?_) | (refine hm_c (goodD_cells (by simp [goodC, isR])) ?_))))); (focus (first | exact gV_agF rfl | exact (fun _ => rfl) | (simp [CT.res, goodV, goodA, goodC, isF]))); (simp only [CT.res, CT.mem, go_sem, Nat.reduceAdd, Nat.reduceSub, Nat.reduceMul, Nat.reduceLT, Nat.reduceLeDiff, Nat.reduceEqDiff, if_true, eq_self]))))
    | ((with_reducible refine slcS ?_); replace H := Hchk H; obtain ⟨hc, H⟩ := H; (first | ((with_reducible apply slice_sl hc); (focus rfl); (focus rfl); (focus (first | (simp only [go_sem]; done) | (simp only [go_sem]; decide))); (focus (first | rfl | (intro x_; rfl))); simp only [go_sem, Nat.reduceAdd, Nat.reduceSub, Nat.reduceMul, Nat.reduceLT, Nat.reduceLeDiff, Nat.reduceEqDiff, if_true, eq_self]) | ((refine slice_msb hc (by rfl) (by rfl) (by rfl) (by first | (simp only [go_sem]; done) | (simp only [go_sem]; decide)) (by first | rfl | (simp only [go_sem]; rfl)) ?_); simp only [go_sem, Nat.reduceAdd, Nat.reduceSub, Nat.reduceMul, Nat.reduceLT, Nat.reduceLeDiff, Nat.reduceEqDiff, if_true, eq_self]) | ((with_reducible apply slice_str hc); (focus rfl); (focus rfl); (focus (simp only [go_sem])); simp only [go_sem, Nat.reduceAdd, Nat.reduceSub, Nat.reduceMul, Nat.reduceLT, Nat.reduceLeDiff, Nat.reduceEqDiff, if_true, eq_self])))
    | ((with_reducible refine appS ?_); replace H := Hchk H; obtain ⟨hc, H⟩ := H; (first | (refine app_msb hc (by first | (simp only [go_sem]; done) | (simp only [go_sem]; rfl)) (by first | (simp only [go_sem]; done) | (simp only [go_sem]; rfl)) (by first | (simp only [go_sem]; done) | (simp only [go_sem]; rfl)) (by first | (simp only [go_sem]; done) | (simp only [go_sem]; rfl)) (by rfl) (by first | rfl | exact src_ss' (by rfl) (by rfl) (by rfl)) rfl rfl (by intro x_; rfl) rfl ?_) | (refine app_nlb hc (by first | (simp only [go_sem]; done) | (simp only [go_sem]; rfl)) (by first | (simp only [go_sem]; done) | (simp only [go_sem]; rfl)) (by first | (simp only [go_sem]; done) | (simp only [go_sem]; rfl)) (by first | (simp only [go_sem]; done) | (simp only [go_sem]; rfl)) (by first | rfl | exact src_ss' (by rfl) (by rfl) (by rfl)) rfl rfl (by intro x_; rfl) ?_)); simp only [go_sem, Nat.reduceAdd, Nat.reduceSub, Nat.reduceMul, Nat.reduceLT, Nat.reduceLeDiff, Nat.reduceEqDiff, if_true, eq_self])
    | ((with_reducible refine mkS ?_); replace H := Hchk H; obtain ⟨hc, H⟩ := H; (refine make_b hc (by first | (simp only [go_sem]; done) | (simp only [go_sem]; rfl)) (by first | (simp only [go_sem]; done) | (simp only [go_sem]; rfl)) (by first | (simp only [go_sem]; done) | (simp only [go_sem]; rfl)) (by first | (simp only [go_sem]; done) | (simp only [go_sem]; rfl)) rfl rfl ?_); simp only [go_sem, Nat.reduceAdd, Nat.reduceSub, Nat.reduceMul, Nat.reduceLT, Nat.reduceLeDiff, Nat.reduceEqDiff, if_true, eq_self])
    | ((with_reducible refine optS ?_); (first | (with_reducible refine opt_if (by decide) ?_) | (replace H := Hchk H; obtain ⟨hc, H⟩ := H; (first | (refine opt_if hc ?_) | (refine opt_if (of_decide_eq_true hc) ?_) | (refine opt_if ⟨rfl, of_decide_eq_true hc⟩ ?_)))); simp only [go_sem, Nat.reduceAdd, Nat.reduceSub, Nat.reduceMul, Nat.reduceLT, Nat.reduceLeDiff, Nat.reduceEqDiff, if_true, eq_self])
    | ((with_reducible refine loopS ?_); (refine pwp_loopH (Hlp H) ?_ ?_); (focus (simp only [LoopE.T, LoopE.M]; (with_reducible refine cutS ?_); (first | (with_reducible apply cutL_0) | (with_reducible apply cutL_1) | (with_reducible apply cutL_2) | (with_reducible apply cutL_3) | (with_reducible apply cutL_4) | (with_reducible apply cutL_5) | (with_reducible apply cutL_6) | (with_reducible apply cutL_7) | (with_reducible apply cutL_8) | (with_reducible apply cutL_9) | (with_reducible apply cutL_10) | (with_reducible apply cutL_11) | (with_reducible apply cutL_12)); (repeat' (first       | (exact lowB_0) | (refine lowB_c ?_) | (refine lowB_d ?_) | (with_reducible refine cutT_un ?_)       | (with_reducible refine cutT_c ?_ ?_)       | (with_reducible exact cutT_nil)       | (with_reducible exact cutV_c rfl)       | exact cutV_c rfl       | (with_reducible exact cutL_nil)       | (with_reducible refine cutL_c ?_ ?_)       | exact .c _ rfl       | exact .un _       | exact cutC_ms rfl rfl       | exact cutC_be rfl rfl       | exact cutC_nilsl0 | exact cutC_nilsl       | exact cutC_nilms rfl rfl       | (refine cutC_fms rfl ?_) | (refine cutC_fmso rfl rfl ?_) | (refine cutC_fss rfl rfl rfl ?_)       | (refine cutC_fbe rfl rfl ?_)       | (with_reducible refine cutC_fnL ?_) | (with_reducible refine cutV_ag ?_)       | (with_reducible refine cutV_tu ?_)       | (with_reducible exact cutAs_nil)       | (with_reducible refine cutAs_c ?_ ?_)       | (with_reducible refine cutA_ag ?_)       | (with_reducible refine cutA_k ?_)       | (with_reducible refine cutV_k ?_)       | (with_reducible exact rowsOk_nil)       | (refine rowsOk_live rfl ?_ ?_)       | (refine rowsOk_new0 rfl ?_) | (refine rowsOk_new rfl ?_)       | (with_reducible refine rowsOk_dead ?_)       | (with_reducible refine cutB_one ?_)       | (with_reducible exact cutB_nil)       | (with_reducible refine cutB_two ?_)       | (with_reducible exact cutE_n)       | (with_reducible refine cutE_c ?_ ?_)       | (with_reducible exact cutB_same)       | (with_reducible refine cutB_set ?_)       | exact cutB_same       | (refine cutB_set ?_)       | (refine cutB_rep ?_)       | (refine cutB_snoc ?_)       | (simp only [cInt, cStr, cBool, cB8, cl1Cur, cLabel, cParcel, cZone, cRate, cLeg, cNetwork, cTrip, cBooking, cScan, cOrder, cWorld, cLine, cAct, cOffice, cItem, cChute, cInlet, cCentre, cThing, cBelief])       | (with_unfolding_all rfl))); (all_goals first | (exact dropped_of rfl) | exact none))); (clear H; intro n_ s_ H K_ hL; replace H := Hrd H; simp only [LoopE.T, LoopE.M]))
    | ((with_reducible refine pwp_draw (by kernel_rfl) ?_); simp only [go_sem, Nat.reduceAdd, Nat.reduceSub, Nat.reduceMul, Nat.reduceLT, Nat.reduceLeDiff, Nat.reduceEqDiff, if_true, eq_self])
    | ((with_reducible refine endD_intro (by kernel_rfl) ?_); (try simp only [thenP_normal, blockP_normal]))
    | ((with_reducible refine hK _ _ ?_); clear hK)
    | (clear hK; (with_reducible refine hK _ _ ?_); clear hK)
    | (clear hK; clear hK; (with_reducible refine hK _ _ ?_); clear hK)
    | (clear hK; clear hK; clear hK; (with_reducible refine hK _ _ ?_); clear hK)
    | (clear hK; clear hK; clear hK; clear hK; (with_reducible refine hK _ _ ?_); clear hK)
    | (clear hK; clear hK; clear hK; clear hK; clear hK; (with_reducible refine hK _ _ ?_); clear hK)
    | ((with_reducible refine And.intro ?_ ?_); omega)
    | (simp only [nxt_app, nxd_app, nxe_app, atM_app]; simp only [go_sem, Nat.reduceAdd, Nat.reduceSub, Nat.reduceMul, Nat.reduceLT, Nat.reduceLeDiff, Nat.reduceEqDiff, if_true, eq_self])
    | ((first | simp only [lit3 hy, Option.map_some, List.drop_zero, go_sem] | simp only [idxmapN hy, idxmap hy, idxset hy, go_sem, Nat.reduceAdd, Nat.reduceSub, Nat.reduceMul, Nat.reduceLT, Nat.reduceLeDiff, Nat.reduceEqDiff, if_true, eq_self] | simp only [idxmap hy, idxset hy, go_sem, Nat.reduceAdd, Nat.reduceSub, Nat.reduceMul, Nat.reduceLT, Nat.reduceLeDiff, Nat.reduceEqDiff, if_true, eq_self]))
    | ((with_reducible replace H := HexL H); (with_reducible refine hL _ _ _ H ?_); (try simp only [LoopE.T, LoopE.M]); (with_reducible refine cutS ?_); (first | (with_reducible apply cutL_0) | (with_reducible apply cutL_1) | (with_reducible apply cutL_2) | (with_reducible apply cutL_3) | (with_reducible apply cutL_4) | (with_reducible apply cutL_5) | (with_reducible apply cutL_6) | (with_reducible apply cutL_7) | (with_reducible apply cutL_8) | (with_reducible apply cutL_9) | (with_reducible apply cutL_10) | (with_reducible apply cutL_11) | (with_reducible apply cutL_12)); (repeat' (first       | (exact lowB_0) | (refine lowB_c ?_) | (refine lowB_d ?_) | (with_reducible refine cutT_un ?_)       | (with_reducible refine cutT_c ?_ ?_)       | (with_reducible exact cutT_nil)       | (with_reducible exact cutV_c rfl)       | exact cutV_c rfl       | (with_reducible exact cutL_nil)       | (with_reducible refine cutL_c ?_ ?_)       | exact .c _ rfl       | exact .un _       | exact cutC_ms rfl rfl       | exact cutC_be rfl rfl       | exact cutC_nilsl0 | exact cutC_nilsl       | exact cutC_nilms rfl rfl       | (refine cutC_fms rfl ?_) | (refine cutC_fmso rfl rfl ?_) | (refine cutC_fss rfl rfl rfl ?_)       | (refine cutC_fbe rfl rfl ?_)       | (with_reducible refine cutC_fnL ?_) | (with_reducible refine cutV_ag ?_)       | (with_reducible refine cutV_tu ?_)       | (with_reducible exact cutAs_nil)       | (with_reducible refine cutAs_c ?_ ?_)       | (with_reducible refine cutA_ag ?_)       | (with_reducible refine cutA_k ?_)       | (with_reducible refine cutV_k ?_)       | (with_reducible exact rowsOk_nil)       | (refine rowsOk_live rfl ?_ ?_)       | (refine rowsOk_new0 rfl ?_) | (refine rowsOk_new rfl ?_)       | (with_reducible refine rowsOk_dead ?_)       | (with_reducible refine cutB_one ?_)       | (with_reducible exact cutB_nil)       | (with_reducible refine cutB_two ?_)       | (with_reducible exact cutE_n)       | (with_reducible refine cutE_c ?_ ?_)       | (with_reducible exact cutB_same)       | (with_reducible refine cutB_set ?_)       | exact cutB_same       | (refine cutB_set ?_)       | (refine cutB_rep ?_)       | (refine cutB_snoc ?_)       | (simp only [cInt, cStr, cBool, cB8, cl1Cur, cLabel, cParcel, cZone, cRate, cLeg, cNetwork, cTrip, cBooking, cScan, cOrder, cWorld, cLine, cAct, cOffice, cItem, cChute, cInlet, cCentre, cThing, cBelief])       | (with_unfolding_all rfl))); (all_goals first | (exact dropped_of rfl) | exact none))
    | ((with_reducible replace H := HexL H); clear hL; (with_reducible refine hL _ _ _ H ?_); (try simp only [LoopE.T, LoopE.M]); (with_reducible refine cutS ?_); (first | (with_reducible apply cutL_0) | (with_reducible apply cutL_1) | (with_reducible apply cutL_2) | (with_reducible apply cutL_3) | (with_reducible apply cutL_4) | (with_reducible apply cutL_5) | (with_reducible apply cutL_6) | (with_reducible apply cutL_7) | (with_reducible apply cutL_8) | (with_reducible apply cutL_9) | (with_reducible apply cutL_10) | (with_reducible apply cutL_11) | (with_reducible apply cutL_12)); (repeat' (first       | (exact lowB_0) | (refine lowB_c ?_) | (refine lowB_d ?_) | (with_reducible refine cutT_un ?_)       | (with_reducible refine cutT_c ?_ ?_)       | (with_reducible exact cutT_nil)       | (with_reducible exact cutV_c rfl)       | exact cutV_c rfl       | (with_reducible exact cutL_nil)       | (with_reducible refine cutL_c ?_ ?_)       | exact .c _ rfl       | exact .un _       | exact cutC_ms rfl rfl       | exact cutC_be rfl rfl       | exact cutC_nilsl0 | exact cutC_nilsl       | exact cutC_nilms rfl rfl       | (refine cutC_fms rfl ?_) | (refine cutC_fmso rfl rfl ?_) | (refine cutC_fss rfl rfl rfl ?_)       | (refine cutC_fbe rfl rfl ?_)       | (with_reducible refine cutC_fnL ?_) | (with_reducible refine cutV_ag ?_)       | (with_reducible refine cutV_tu ?_)       | (with_reducible exact cutAs_nil)       | (with_reducible refine cutAs_c ?_ ?_)       | (with_reducible refine cutA_ag ?_)       | (with_reducible refine cutA_k ?_)       | (with_reducible refine cutV_k ?_)       | (with_reducible exact rowsOk_nil)       | (refine rowsOk_live rfl ?_ ?_)       | (refine rowsOk_new0 rfl ?_) | (refine rowsOk_new rfl ?_)       | (with_reducible refine rowsOk_dead ?_)       | (with_reducible refine cutB_one ?_)       | (with_reducible exact cutB_nil)       | (with_reducible refine cutB_two ?_)       | (with_reducible exact cutE_n)       | (with_reducible refine cutE_c ?_ ?_)       | (with_reducible exact cutB_same)       | (with_reducible refine cutB_set ?_)       | exact cutB_same       | (refine cutB_set ?_)       | (refine cutB_rep ?_)       | (refine cutB_snoc ?_)       | (simp only [cInt, cStr, cBool, cB8, cl1Cur, cLabel, cParcel, cZone, cRate, cLeg, cNetwork, cTrip, cBooking, cScan, cOrder, cWorld, cLine, cAct, cOffice, cItem, cChute, cInlet, cCentre, cThing, cBelief])       | (with_unfolding_all rfl))); (all_goals first | (exact dropped_of rfl) | exact none))
    | ((with_reducible refine jnX H hL ?_); (with_reducible refine cutS ?_); (first | (with_reducible apply cutL_0) | (with_reducible apply cutL_1) | (with_reducible apply cutL_2) | (with_reducible apply cutL_3) | (with_reducible apply cutL_4) | (with_reducible apply cutL_5) | (with_reducible apply cutL_6) | (with_reducible apply cutL_7) | (with_reducible apply cutL_8) | (with_reducible apply cutL_9) | (with_reducible apply cutL_10) | (with_reducible apply cutL_11) | (with_reducible apply cutL_12)); (repeat' (first       | (exact lowB_0) | (refine lowB_c ?_) | (refine lowB_d ?_) | (with_reducible refine cutT_un ?_)       | (with_reducible refine cutT_c ?_ ?_)       | (with_reducible exact cutT_nil)       | (with_reducible exact cutV_c rfl)       | exact cutV_c rfl       | (with_reducible exact cutL_nil)       | (with_reducible refine cutL_c ?_ ?_)       | exact .c _ rfl       | exact .un _       | exact cutC_ms rfl rfl       | exact cutC_be rfl rfl       | exact cutC_nilsl0 | exact cutC_nilsl       | exact cutC_nilms rfl rfl       | (refine cutC_fms rfl ?_) | (refine cutC_fmso rfl rfl ?_) | (refine cutC_fss rfl rfl rfl ?_)       | (refine cutC_fbe rfl rfl ?_)       | (with_reducible refine cutC_fnL ?_) | (with_reducible refine cutV_ag ?_)       | (with_reducible refine cutV_tu ?_)       | (with_reducible exact cutAs_nil)       | (with_reducible refine cutAs_c ?_ ?_)       | (with_reducible refine cutA_ag ?_)       | (with_reducible refine cutA_k ?_)       | (with_reducible refine cutV_k ?_)       | (with_reducible exact rowsOk_nil)       | (refine rowsOk_live rfl ?_ ?_)       | (refine rowsOk_new0 rfl ?_) | (refine rowsOk_new rfl ?_)       | (with_reducible refine rowsOk_dead ?_)       | (with_reducible refine cutB_one ?_)       | (with_reducible exact cutB_nil)       | (with_reducible refine cutB_two ?_)       | (with_reducible exact cutE_n)       | (with_reducible refine cutE_c ?_ ?_)       | (with_reducible exact cutB_same)       | (with_reducible refine cutB_set ?_)       | exact cutB_same       | (refine cutB_set ?_)       | (refine cutB_rep ?_)       | (refine cutB_snoc ?_)       | (simp only [cInt, cStr, cBool, cB8, cl1Cur, cLabel, cParcel, cZone, cRate, cLeg, cNetwork, cTrip, cBooking, cScan, cOrder, cWorld, cLine, cAct, cOffice, cItem, cChute, cInlet, cCentre, cThing, cBelief])       | (with_unfolding_all rfl))); (all_goals first | (exact dropped_of rfl) | exact none))
    | (with_reducible exact (Hnone H).elim)
    | ((with_reducible replace H := rgH H); obtain ⟨y_, hy, H⟩ := H; (first | simp only [lit3 hy, Option.map_some, List.drop_zero, go_sem] | simp only [idxmapN hy, idxmap hy, idxset hy, go_sem, Nat.reduceAdd, Nat.reduceSub, Nat.reduceMul, Nat.reduceLT, Nat.reduceLeDiff, Nat.reduceEqDiff, if_true, eq_self] | simp only [idxmap hy, idxset hy, go_sem, Nat.reduceAdd, Nat.reduceSub, Nat.reduceMul, Nat.reduceLT, Nat.reduceLeDiff, Nat.reduceEqDiff, if_true, eq_self])))) : p := h
end Go.Proofs.YtmcdjilbkmhfoaaGreat
namespace Go.Proofs.YtmcdjilbkmhfoaaGreat
set_option maxRecDepth 10000
open Go.Sort
set_option linter.unusedVariables false
set_option linter.unusedSimpArgs false
section
variable {α : Type} [Inhabited α]
theorem gx {d : Array α} {x y : Nat} (h : x = y) : d[x]! = d[y]! := by rw [h]
def swpR (d : Array α) (a b : Nat) : Nat → Array α
  | 0 => d
  | n + 1 => swp (swpR d a b n) (a + n) (b + n)
theorem swpR_size (d : Array α) (a b : Nat) : ∀ n, (swpR d a b n).size = d.size
  | 0 => rfl
  | n + 1 => by rw [swpR, size_swp, swpR_size d a b n]
theorem swpR_perm (d : Array α) {a b lo hi : Nat} (h1 : lo ≤ a) : ∀ n, a + n ≤ hi → lo ≤ b → b + n ≤ hi → hi ≤ d.size → PermIn lo hi d (swpR d a b n)
  | 0, _, _, _, _ => permIn_refl _ _ _
  | n + 1, h2, h3, h4, h5 => permIn_trans _ _ _ _ _ (swpR_perm d h1 n (by omega) h3 (by omega) h5) (swp_permIn _ _ _ _ _ (by omega) (by omega) (by omega) (by omega) (by rw [swpR_size]; omega))
theorem swpR_get (d : Array α) {a b : Nat} : ∀ n, a + n ≤ b → b + n ≤ d.size → ∀ k, (swpR d a b n)[k]! = if a ≤ k ∧ k < a + n then d[b + (k - a)]! else if b ≤ k ∧ k < b + n then d[a + (k - b)]! else d[k]!
  | 0, _, _, k => by rw [if_neg (by omega), if_neg (by omega)]; rfl
  | n + 1, h1, h2, k => by
    have ih := swpR_get d (a := a) (b := b) n (by omega) (by omega)
    rw [swpR, swp_get (swpR d a b n) (i := a + n) (j := b + n) (by rw [swpR_size]; omega) (by rw [swpR_size]; omega), ih, ih, ih]
    repeat' split
    all_goals first | (exfalso; omega) | exact gx (by omega)
def rotF (d : Array α) (a m b k : Nat) : α := if a ≤ k ∧ k < a + (b - m) then d[m + (k - a)]! else if a + (b - m) ≤ k ∧ k < b then d[k - (b - m)]! else d[k]!
theorem rotF_gt (e : Array α) {m i j : Nat} (h : j < i) (hi : i ≤ m) (hs : m + j ≤ e.size) (k : Nat) : rotF (swpR e (m - i) m j) (m - i + j) m (m + j) k = rotF e (m - i) m (m + j) k := by
  unfold rotF
  simp only [swpR_get e (a := m - i) (b := m) j (by omega) (by omega)]
  repeat' split
  all_goals first | (exfalso; omega) | exact gx (by omega)
theorem rotF_lt (e : Array α) {m i j : Nat} (h : i < j) (hi : i ≤ m) (hs : m + j ≤ e.size) (k : Nat) : rotF (swpR e (m - i) (m + j - i) i) (m - i) m (m + j - i) k = rotF e (m - i) m (m + j) k := by
  unfold rotF
  simp only [swpR_get e (a := m - i) (b := m + j - i) i (by omega) (by omega)]
  repeat' split
  all_goals first | (exfalso; omega) | exact gx (by omega)
theorem rotF_eq (e : Array α) {m i : Nat} (hi : i ≤ m) (hs : m + i ≤ e.size) (k : Nat) : (swpR e (m - i) m i)[k]! = rotF e (m - i) m (m + i) k := by
  unfold rotF
  rw [swpR_get e i (by omega) (by omega)]
  repeat' split
  all_goals first | (exfalso; omega) | exact gx (by omega)
theorem rotF_none (d : Array α) {a m b : Nat} (h : m ≤ a ∨ b ≤ m) (hab : a ≤ m) (hb : m ≤ b) (k : Nat) : d[k]! = rotF d a m b k := by
  unfold rotF
  repeat' split
  all_goals first | (exfalso; omega) | exact gx (by omega)
def shU (d : Array α) (a : Nat) : Nat → Array α
  | 0 => d
  | n + 1 => swp (shU d a n) (a + n) (a + n + 1)
theorem shU_size (d : Array α) (a : Nat) : ∀ n, (shU d a n).size = d.size
  | 0 => rfl
  | n + 1 => by rw [shU, size_swp, shU_size d a n]
theorem shU_perm (d : Array α) {a hi : Nat} : ∀ n, a + n < hi → hi ≤ d.size → PermIn a hi d (shU d a n)
  | 0, _, _ => permIn_refl _ _ _
  | n + 1, h2, h5 => permIn_trans _ _ _ _ _ (shU_perm d n (by omega) h5) (swp_permIn _ _ _ _ _ (by omega) (by omega) (by omega) (by omega) (by rw [shU_size]; omega))
theorem shU_get (d : Array α) {a : Nat} : ∀ n, a + n < d.size → ∀ k, (shU d a n)[k]! = rotF d a (a + 1) (a + 1 + n) k
  | 0, h, k => rotF_none d (.inr (by omega)) (by omega) (by omega) k
  | n + 1, h, k => by
    have ih := shU_get d (a := a) n (by omega)
    rw [shU, swp_get (shU d a n) (i := a + n) (j := a + n + 1) (by rw [shU_size]; omega) (by rw [shU_size]; omega), ih, ih, ih]
    unfold rotF
    repeat' split
    all_goals first | (exfalso; omega) | exact gx (by omega)
def shD (d : Array α) (m : Nat) : Nat → Array α
  | 0 => d
  | n + 1 => swp (shD d m n) (m - n) (m - n - 1)
theorem shD_size (d : Array α) (m : Nat) : ∀ n, (shD d m n).size = d.size
  | 0 => rfl
  | n + 1 => by rw [shD, size_swp, shD_size d m n]
theorem shD_perm (d : Array α) {m lo : Nat} : ∀ n, lo + n ≤ m → m < d.size → PermIn lo (m + 1) d (shD d m n)
  | 0, _, _ => permIn_refl _ _ _
  | n + 1, h2, h5 => permIn_trans _ _ _ _ _ (shD_perm d n (by omega) h5) (swp_permIn _ _ _ _ _ (by omega) (by omega) (by omega) (by omega) (by rw [shD_size]; omega))
theorem shD_get (d : Array α) {m : Nat} : ∀ n, n ≤ m → m < d.size → ∀ k, (shD d m n)[k]! = rotF d (m - n) m (m + 1) k
  | 0, h, h', k => rotF_none d (.inl (by omega)) (by omega) (by omega) k
  | n + 1, h, h', k => by
    have ih := shD_get d (m := m) n (by omega) h'
    rw [shD, swp_get (shD d m n) (i := m - n) (j := m - n - 1) (by rw [shD_size]; omega) (by rw [shD_size]; omega), ih, ih, ih]
    unfold rotF
    repeat' split
    all_goals first | (exfalso; omega) | exact gx (by omega)
variable {lt : α → α → Bool}
theorem srt_le (hO : SWO lt) {a b : Nat} {d : Array α} (h : SortedIn lt a b d) {i j : Nat} (h1 : a ≤ i) (h2 : i ≤ j) (h3 : j < b) : lt d[j]! d[i]! = false := by
  rcases Nat.lt_or_ge i j with h4 | h4
  · exact h i j h1 h4 h3
  · have : i = j := by omega
    subst this; exact hO.irrefl _
theorem srt_sub {a b a' b' : Nat} {d : Array α} (h : SortedIn lt a b d) (h1 : a ≤ a') (h2 : b' ≤ b) : SortedIn lt a' b' d := fun i j hi hij hj => h i j (by omega) hij (by omega)
theorem srt_eq {a b : Nat} {d e : Array α} (h : SortedIn lt a b d) (he : ∀ k, a ≤ k → k < b → e[k]! = d[k]!) : SortedIn lt a b e := fun i j hi hij hj => by
  rw [he i hi (by omega), he j (by omega) hj]; exact h i j hi hij hj
theorem srt_one {a b : Nat} {d : Array α} (h : b ≤ a + 1) : SortedIn lt a b d := fun i j hi hij hj => by omega
theorem halves (hO : SWO lt) {a m b s t mid : Nat} {d e : Array α} (h1 : SortedIn lt a m d) (h2 : SortedIn lt m b d) (hs : a ≤ s ∧ s ≤ m) (ht : m ≤ t ∧ t ≤ b) (hmid : s + (t - m) = mid)
    (c1 : a < s → t < b → lt d[t]! d[s - 1]! = false) (c2 : s < m → m < t → lt d[t - 1]! d[s]! = true) (hr : ∀ k, e[k]! = rotF d s m t k) :
    SortedIn lt a s e ∧ SortedIn lt s mid e ∧ SortedIn lt mid t e ∧ SortedIn lt t b e ∧ ∀ i j, a ≤ i → i < mid → mid ≤ j → j < b → lt e[j]! e[i]! = false := by
  have g1 : ∀ k, k < s → e[k]! = d[k]! := fun k h => by rw [hr]; unfold rotF; rw [if_neg (by omega), if_neg (by omega)]
  have g2 : ∀ k, s ≤ k → k < mid → e[k]! = d[m + (k - s)]! := fun k h h' => by rw [hr]; unfold rotF; rw [if_pos (by omega)]
  have g3 : ∀ k, mid ≤ k → k < t → e[k]! = d[k - (t - m)]! := fun k h h' => by rw [hr]; unfold rotF; rw [if_neg (by omega), if_pos (by omega)]
  have g4 : ∀ k, t ≤ k → e[k]! = d[k]! := fun k h => by rw [hr]; unfold rotF; rw [if_neg (by omega), if_neg (by omega)]
  refine ⟨fun i j hi hij hj => ?_, fun i j hi hij hj => ?_, fun i j hi hij hj => ?_, fun i j hi hij hj => ?_, fun i j hi hi' hj hj' => ?_⟩
  · rw [g1 i (by omega), g1 j hj]; exact h1 i j hi hij (by omega)
  · rw [g2 i hi (by omega), g2 j (by omega) hj]; exact h2 _ _ (by omega) (by omega) (by omega)
  · rw [g3 i hi (by omega), g3 j (by omega) hj]; exact h1 _ _ (by omega) (by omega) (by omega)
  · rw [g4 i hi, g4 j (by omega)]; exact h2 i j (by omega) hij hj
  · rcases Nat.lt_or_ge i s with x | x <;> rcases Nat.lt_or_ge j t with y | y
    · rw [g1 i x, g3 j hj y]; exact h1 _ _ hi (by omega) (by omega)
    · rw [g1 i x, g4 j y]
      have a1 := srt_le hO h2 (i := t) (j := j) ht.1 y hj'
      have a2 := c1 (by omega) (by omega)
      have a3 := srt_le hO h1 (i := i) (j := s - 1) hi (by omega) (by omega)
      exact hO.ntrans _ _ _ (hO.ntrans _ _ _ a1 a2) a3
    · rw [g2 i x hi', g3 j hj y]
      have a1 := srt_le hO h2 (i := m + (i - s)) (j := t - 1) (by omega) (by omega) (by omega)
      have a2 := c2 (by omega) (by omega)
      have a3 := srt_le hO h1 (i := s) (j := j - (t - m)) hs.1 (by omega) (by omega)
      cases hv : lt d[j - (t - m)]! d[m + (i - s)]! with
      | false => rfl
      | true =>
        cases hw : lt d[j - (t - m)]! d[t - 1]! with
        | false => rw [hO.ntrans _ _ _ hw a1] at hv; cases hv
        | true => rw [hO.trans _ _ _ hw a2] at a3; cases a3
    · rw [g2 i x hi', g4 j y]; exact h2 _ _ (by omega) (by omega) hj'
theorem glue (hO : SWO lt) {a mid b : Nat} {e e1 e2 : Array α} (hb : b ≤ e.size) (ha : a ≤ mid) (hm : mid ≤ b) (p1 : PermIn a mid e e1) (p2 : PermIn mid b e1 e2) (s1 : SortedIn lt a mid e1) (s2 : SortedIn lt mid b e2)
    (hc : ∀ i j, a ≤ i → i < mid → mid ≤ j → j < b → lt e[j]! e[i]! = false) : PermIn a b e e2 ∧ SortedIn lt a b e2 := by
  have z1 := p1.1
  have z2 := p2.1
  refine ⟨permIn_trans _ _ _ _ _ (permIn_mono _ _ _ _ _ _ (Nat.le_refl _) hm hb p1) (permIn_mono _ _ _ _ _ _ ha (Nat.le_refl _) (by omega) p2), fun i j hi hij hj => ?_⟩
  have k1 : ∀ i j, a ≤ i → i < mid → mid ≤ j → j < b → lt e1[j]! e1[i]! = false := fun i j hi hi' hj hj' => by
    rw [p1.2.1 j (.inr hj)]
    exact permIn_all e e1 a mid (fun x => lt e[j]! x = false) (by omega) p1 (fun i h h' => hc i j h h' hj hj') i hi hi'
  have k2 : ∀ i j, a ≤ i → i < mid → mid ≤ j → j < b → lt e2[j]! e2[i]! = false := fun i j hi hi' hj hj' => by
    rw [p2.2.1 i (.inl hi')]
    exact permIn_all e1 e2 mid b (fun y => lt y e1[i]! = false) (by omega) p2 (fun j h h' => k1 i j hi hi' h h') j hj hj'
  rcases Nat.lt_or_ge i mid with x | x
  · rcases Nat.lt_or_ge j mid with y | y
    · rw [p2.2.1 i (.inl x), p2.2.1 j (.inl y)]; exact s1 i j hi hij y
    · exact k2 i j hi x y hj
  · exact s2 i j x hij hj
theorem ins_left (hO : SWO lt) {a b i : Nat} {d e : Array α} (h : SortedIn lt (a + 1) b d) (h1 : a + 1 ≤ i) (h2 : i ≤ b) (c1 : i = a + 1 ∨ lt d[i - 1]! d[a]! = true) (c2 : i = b ∨ lt d[i]! d[a]! = false) (hr : ∀ k, e[k]! = rotF d a (a + 1) i k) : SortedIn lt a b e := by
  have g1 : ∀ k, a ≤ k → k < i - 1 → e[k]! = d[k + 1]! := fun k h h' => by rw [hr]; unfold rotF; rw [if_pos (by omega)]; exact gx (by omega)
  have g2 : e[i - 1]! = d[a]! := by rw [hr]; unfold rotF; rw [if_neg (by omega), if_pos (by omega)]; exact gx (by omega)
  have g3 : ∀ k, i ≤ k → e[k]! = d[k]! := fun k h => by rw [hr]; unfold rotF; rw [if_neg (by omega), if_neg (by omega)]
  have lo : ∀ p, a ≤ p → p < i - 1 → lt d[a]! d[p + 1]! = false := fun p h5 h6 => by
    rcases c1 with c1 | c1
    · omega
    · exact hO.ntrans _ _ _ (hO.asymmA c1) (srt_le hO h (i := p + 1) (j := i - 1) (by omega) (by omega) (by omega))
  have hi : ∀ q, i ≤ q → q < b → lt d[q]! d[a]! = false := fun q h5 h6 => by
    rcases c2 with c2 | c2
    · omega
    · exact hO.ntrans _ _ _ (srt_le hO h (i := i) (j := q) h1 h5 h6) c2
  intro p q hp hpq hq
  rcases Nat.lt_trichotomy p (i - 1) with x | x | x
  · rcases Nat.lt_trichotomy q (i - 1) with y | y | y
    · rw [g1 p hp x, g1 q (by omega) y]; exact h _ _ (by omega) (by omega) (by omega)
    · rw [y, g2, g1 p hp x]; exact lo p hp x
    · rw [g1 p hp x, g3 q (by omega)]; exact h _ _ (by omega) (by omega) hq
  · rw [x, g2, g3 q (by omega)]; exact hi q (by omega) hq
  · rw [g3 p (by omega), g3 q (by omega)]; exact h _ _ (by omega) hpq hq
theorem ins_right (hO : SWO lt) {a m i : Nat} {d e : Array α} (h : SortedIn lt a m d) (h1 : a ≤ i) (h2 : i ≤ m) (c1 : i = a ∨ lt d[m]! d[i - 1]! = false) (c2 : i = m ∨ lt d[m]! d[i]! = true) (hr : ∀ k, e[k]! = rotF d i m (m + 1) k) : SortedIn lt a (m + 1) e := by
  have g1 : ∀ k, k < i → e[k]! = d[k]! := fun k h => by rw [hr]; unfold rotF; rw [if_neg (by omega), if_neg (by omega)]
  have g2 : e[i]! = d[m]! := by rw [hr]; unfold rotF; rw [if_pos (by omega)]; exact gx (by omega)
  have g3 : ∀ k, i < k → k ≤ m → e[k]! = d[k - 1]! := fun k h h' => by rw [hr]; unfold rotF; rw [if_neg (by omega), if_pos (by omega)]; exact gx (by omega)
  have lo : ∀ p, a ≤ p → p < i → lt d[m]! d[p]! = false := fun p h5 h6 => by
    rcases c1 with c1 | c1
    · omega
    · exact hO.ntrans _ _ _ c1 (srt_le hO h (i := p) (j := i - 1) h5 (by omega) (by omega))
  have hi : ∀ q, i < q → q ≤ m → lt d[q - 1]! d[m]! = false := fun q h5 h6 => by
    rcases c2 with c2 | c2
    · omega
    · exact hO.ntrans _ _ _ (srt_le hO h (i := i) (j := q - 1) h1 (by omega) (by omega)) (hO.asymmA c2)
  intro p q hp hpq hq
  rcases Nat.lt_trichotomy p i with x | x | x
  · rcases Nat.lt_trichotomy q i with y | y | y
    · rw [g1 p x, g1 q y]; exact h _ _ hp hpq (by omega)
    · rw [y, g2, g1 p x]; exact lo p hp x
    · rw [g1 p x, g3 q y (by omega)]; exact srt_le hO h (by omega) (by omega) (by omega)
  · rw [x, g2, g3 q (by omega) (by omega)]; exact hi q (by omega) (by omega)
  · rw [g3 p x (by omega), g3 q (by omega) (by omega)]; exact srt_le hO h (by omega) (by omega) (by omega)
def Runs (lt : α → α → Bool) (bs n : Nat) (d : Array α) : Prop := ∀ q, SortedIn lt (q * bs) (min (q * bs + bs) n) d
end
end Go.Proofs.YtmcdjilbkmhfoaaGreat
namespace Go.Proofs.YtmcdjilbkmhfoaaGreat
set_option maxRecDepth 10000
open Go.RowKit Go.Lib Go.Sort
set_option linter.unusedVariables false
set_option linter.unusedSimpArgs false
set_option linter.unusedSectionVars false
set_option maxRecDepth 100000
set_option maxHeartbeats 4000000
section
variable {α : Type} [Inhabited α] {enc : α → List Value} {k : Nat} {g : Nat} {T : TypeId} {cs : Nat}
structure SU (enc : α → List Value) (k : Nat) (g : Nat) (T : TypeId) (cs : Nat) (w0 : World) (d : Array α) (W : World) : Prop where
  up : UpO (fun b => b = g) w0 W
  hold : HoldsK enc k W g 0 d
  row : ∃ cells, W.heap[g]? = some (.cells cells T (0, 0)) ∧ cells.size = cs
theorem SU.lt {w0 W : World} {d : Array α} (h : SU enc k g T cs w0 d W) : g < W.heap.size := by
  obtain ⟨c, h1, _⟩ := h.row
  exact (Array.getElem?_eq_some_iff.1 h1).1
theorem SU.more {w0 W W' : World} {d : Array α} (h : SU enc k g T cs w0 d W) (u : Up W W') : SU enc k g T cs w0 d W' := by
  have hl := h.lt
  refine ⟨⟨u.os.trans h.up.os, u.tape.trans h.up.tape, u.output.trans h.up.output, Nat.le_trans h.up.size u.size, fun b hb hn => (u.block b (Nat.lt_of_lt_of_le hb h.up.size)).trans (h.up.block b hb hn)⟩, fun j hj => ⟨(u.cell (p := ⟨g, 0 + j, none⟩) hl).trans (h.hold j hj).1, (u.frozen (p := ⟨g, 0 + j, none⟩) hl).trans (h.hold j hj).2⟩, ?_⟩
  obtain ⟨c, h1, h2⟩ := h.row
  exact ⟨c, (u.block g hl).trans h1, h2⟩
theorem SU.trans {w0 W W' : World} {d d' : Array α} (h : SU enc k g T cs w0 d W) (h' : SU enc k g T cs W d' W') : SU enc k g T cs w0 d' W' := ⟨h.up.trans h'.up fun _ _ h => h, h'.hold, h'.row⟩
theorem SU.self {w0 W : World} {d : Array α} (h : SU enc k g T cs w0 d W) : SU enc k g T cs W d W := ⟨UpO.refl _ _, h.hold, h.row⟩
theorem SU.oth {w0 W : World} {d : Array α} (h : SU enc k g T cs w0 d W) {b o : Nat} (hb : b < w0.heap.size) (hn : b ≠ g) : W.cell? ⟨b, o, none⟩ = w0.cell? ⟨b, o, none⟩ := cell_of_heap (h.up.block b hb hn)
theorem SU.swap (hk : ∀ x, (enc x).length = k) {w0 W : World} {d : Array α} (h : SU enc k g T cs w0 d W) {i j : Nat} (hi : i < d.size) (hj : j < d.size) : SU enc k g T cs w0 (swp d i j) ((W.setCells g (i * k) (enc d[j]!)).setCells g (j * k) (enc d[i]!)) := by
  have e := putRowK_swp enc k hk W g 0 d i j hi hj
  rw [putRowK_self enc k W g 0 d h.hold, Nat.zero_add, Nat.zero_add] at e
  rw [e]
  have hl := h.lt
  refine ⟨h.up.trans (O' := fun b => b = g) ⟨rfl, rfl, rfl, by rw [size_putRowK]; exact Nat.le_refl _, fun b hb hn => ?_⟩ fun _ _ h => h, holdsK_putRowK enc k W g 0 d _ h.hold (size_swp _ _ _), ?_⟩
  · show (W.heap.modify g _)[b]? = _
    rw [Array.getElem?_modify, if_neg (fun e => hn e.symm)]
  · obtain ⟨c, h1, h2⟩ := h.row
    refine ⟨putCells id 0 (flatK enc k (swp d i j)) c, ?_, ?_⟩
    · show (W.heap.modify g _)[g]? = _
      rw [Array.getElem?_modify, if_pos rfl, h1]
      rfl
    · simp [putCells, h2]
def LessU (f : Nat) (lb : Array Value) (enc : α → List Value) (k : Nat) (lt : α → α → Bool) (g : Nat) (T : TypeId) (cs n : Nat) (w0 : World) : Prop :=
  ∀ (d : Array α) (W : World), SU enc k g T cs w0 d W → d.size = n → ∀ i j : Nat, i < n → j < n → Calls Tryz.prog f (#[.int .i64 i, .int .i64 j] ++ lb) W fun e w' => e = .returned (.bool (lt d[i]! d[j]!)) ∧ Up W w'
theorem LessU.on {f : Nat} {lb : Array Value} {lt : α → α → Bool} {n : Nat} {w0 W : World} {d : Array α} (h : LessU f lb enc k lt g T cs n w0) (hW : SU enc k g T cs w0 d W) : LessU f lb enc k lt g T cs n W := fun d' W' h' => h d' W' (hW.trans h')
abbrev LS (f : Nat) (lb : Array Value) (sf : Nat) (sb : Array Value) : Value := .agg #[.func (.func f) #[] lb, .func (.func sf) #[] sb]
abbrev LSo (f : Nat) (lb : Array Value) (sf : Nat) (sb : Array Value) : Obj := .cells #[.func (.func f) #[] lb, .func (.func sf) #[] sb] 245
variable (hk : ∀ x, (enc x).length = k) (f : Nat) (lb : Array Value) (sf : Nat) (sb : Array Value) (n : Nat) (hn : n < 1152921504606846976) (hswap : SwapSwapsK Tryz.prog sf sb enc k g 0 n)
include hk hn hswap
theorem swapR_w {d : Array α} {W : World} (hd : d.size = n) (h0 : SU enc k g T cs W d W) (a b m : Nat) (h1 : a + m ≤ b) (h2 : b + m ≤ n) :
    Calls Tryz.prog 286 #[LS f lb sf sb, .int .i64 a, .int .i64 b, .int .i64 m] W fun e w' => e = .returned (.tuple #[]) ∧ SU enc k g T cs W (swpR d a b m) w' := by
  have hg := h0.lt
  have hB : SU enc k g T cs W d (W.alloc (LSo f lb sf sb)) := h0.more (Up.al _ (Up.rfl' W))
  go_enter Tryz.func286, Tryz.ntmps286
  go_wp2
  go_loopw [8] (fun vi wr => ∃ i : Nat, vi = .int .i64 i ∧ i ≤ m ∧ SU enc k g T cs (W.alloc (LSo f lb sf sb)) (swpR d a b i) wr) (fun vi _ => m - (intOf vi).toNat)
  case atStart => exact ⟨0, by go_num, by omega, hB.self⟩
  case round =>
    obtain ⟨i, rfl, him, hS⟩ := hrel
    have c1 : wr.cell? ⟨W.heap.size, 1, none⟩ = some (.func (.func sf) #[] sb) := by rw [hS.oth (by simp) (by omega)]; simp
    have HS : Hid (SU enc k g T cs (W.alloc (LSo f lb sf sb)) (swpR d a b i) wr) := hS
    clear hS
    by_cases hi : i < m
    · have hs := hswap wr (swpR d a b i) HS.out.hold (by rw [swpR_size]; exact hd) (a + i) (b + i) (by omega) (by omega)
      rw [show ((a + i : Nat) : Int) = (a : Int) + (i : Int) by omega, show ((b + i : Nat) : Int) = (b : Int) + (i : Int) by omega] at hs
      go_wp2
      exact ⟨⟨i + 1, by go_num, by omega, HS.out.swap hk (by rw [swpR_size]; omega) (by rw [swpR_size]; omega)⟩, by simp [intOf]; omega⟩
    · go_wp2
      go_end0
      have : i = m := by omega
      subst this
      exact ⟨rfl, hB.trans HS.out⟩
theorem rotate_w {d : Array α} {W : World} (hd : d.size = n) (h0 : SU enc k g T cs W d W) (a m b : Nat) (h1 : a ≤ m) (h2 : m ≤ b) (h3 : b ≤ n) (h4 : a < m ∧ m < b) :
    Calls Tryz.prog 273 #[LS f lb sf sb, .int .i64 a, .int .i64 m, .int .i64 b] W fun e w' => e = .returned (.tuple #[]) ∧ ∃ e, SU enc k g T cs W e w' ∧ PermIn a b d e ∧ ∀ k, e[k]! = rotF d a m b k := by
  have hg := h0.lt
  have hB : SU enc k g T cs W d (W.alloc (LSo f lb sf sb)) := h0.more (Up.al _ (Up.rfl' W))
  have hsw := fun (d' : Array α) (W' : World) (hd' : d'.size = n) (h' : SU enc k g T cs W' d' W') (a b m : Nat) (h1 : a + m ≤ b) (h2 : b + m ≤ n) => swapR_w hk f lb sf sb n hn hswap (T := T) (cs := cs) hd' h' a b m h1 h2
  go_enter Tryz.func273, Tryz.ntmps273
  go_wp2
  go_loopw [8, 9] (fun vi vj wr => ∃ (i j : Nat) (e : Array α), vi = .int .i64 i ∧ vj = .int .i64 j ∧ 0 < i ∧ 0 < j ∧ i ≤ m - a ∧ j ≤ b - m ∧ e.size = n ∧ PermIn a b d e ∧ (∀ k, rotF e (m - i) m (m + j) k = rotF d a m b k) ∧ SU enc k g T cs (W.alloc (LSo f lb sf sb)) e wr) (fun vi vj _ => (intOf vi).toNat + (intOf vj).toNat)
  case atStart => exact ⟨m - a, b - m, d, by go_num, by go_num, by omega, by omega, Nat.le_refl _, Nat.le_refl _, hd, permIn_refl _ _ _, fun k => by rw [show m - (m - a) = a by omega, show m + (b - m) = b by omega], hB.self⟩
  case round =>
    obtain ⟨i, j, e, rfl, rfl, hi, hj, hia, hjb, he, hP, hR, hS⟩ := hrel
    have c0 : wr.cell? ⟨W.heap.size, 0, none⟩ = some (.func (.func f) #[] lb) := by rw [hS.oth (by simp) (by omega)]; simp
    have c1 : wr.cell? ⟨W.heap.size, 1, none⟩ = some (.func (.func sf) #[] sb) := by rw [hS.oth (by simp) (by omega)]; simp
    have HS : Hid (SU enc k g T cs (W.alloc (LSo f lb sf sb)) e wr) := hS
    have HR : Hid (∀ k, rotF e (m - i) m (m + j) k = rotF d a m b k) := hR
    have HB : Hid (SU enc k g T cs W d (W.alloc (LSo f lb sf sb))) := hB
    clear hS hR hB h0
    by_cases hij : i = j
    · subst hij
      have q := hsw e wr he HS.out.self (m - i) m i (by omega) (by omega)
      rw [show ((m - i : Nat) : Int) = (m : Int) - (i : Int) by omega] at q
      go_wp2_with (go_at_call 286; refine q.mono ?_; rintro e w' ⟨rfl, hw⟩)
      go_end0
      exact ⟨rfl, swpR e (m - i) m i, (HB.out.trans HS.out).trans hw, permIn_trans _ _ _ _ _ hP (swpR_perm e (by omega) i (by omega) (by omega) (by omega) (by omega)), fun k => (rotF_eq e (by omega) (by omega) k).trans (HR.out k)⟩
    · by_cases hgt : j < i
      · have q := hsw e wr he HS.out.self (m - i) m j (by omega) (by omega)
        rw [show ((m - i : Nat) : Int) = (m : Int) - (i : Int) by omega] at q
        go_wp2_with (go_at_call 286; refine q.mono ?_; rintro e w' ⟨rfl, hw⟩)
        refine ⟨⟨i - j, j, swpR e (m - i) m j, by go_num, rfl, by omega, hj, by omega, hjb, by rw [swpR_size]; exact he, permIn_trans _ _ _ _ _ hP (swpR_perm e (by omega) j (by omega) (by omega) (by omega) (by omega)), fun k => ?_, HS.out.trans hw⟩, by simp [intOf]; omega⟩
        rw [show m - (i - j) = m - i + j by omega]
        exact (rotF_gt e hgt (by omega) (by omega) k).trans (HR.out k)
      · have q := hsw e wr he HS.out.self (m - i) (m + j - i) i (by omega) (by omega)
        rw [show ((m - i : Nat) : Int) = (m : Int) - (i : Int) by omega, show ((m + j - i : Nat) : Int) = (m : Int) + (j : Int) - (i : Int) by omega] at q
        go_wp2_with (go_at_call 286; refine q.mono ?_; rintro e w' ⟨rfl, hw⟩)
        refine ⟨⟨i, j - i, swpR e (m - i) (m + j - i) i, rfl, by go_num, hi, by omega, hia, by omega, by rw [swpR_size]; exact he, permIn_trans _ _ _ _ _ hP (swpR_perm e (by omega) i (by omega) (by omega) (by omega) (by omega)), fun k => ?_, HS.out.trans hw⟩, by simp [intOf]; omega⟩
        rw [show m + (j - i) = m + j - i by omega]
        exact (rotF_lt e (by omega) (by omega) (by omega) k).trans (HR.out k)
omit hk hn hswap in
theorem less_on {lt : α → α → Bool} {d0 : Array α} {W : World} (hL : LessU f lb enc k lt g T cs n W) (h0 : SU enc k g T cs W d0 W) {dj : Array α} {wr : World} (hS : SU enc k g T cs (W.alloc (LSo f lb sf sb)) dj wr) (hd : dj.size = n) (hsw : SwapSwapsK Tryz.prog sf sb enc k g 0 n) (i j : Nat) (hi : i < n) (hj : j < n) :
    Calls Tryz.prog f (#[.int .i64 i, .int .i64 j] ++ lb) wr fun e w' => e = .returned (.bool (lt dj[i]! dj[j]!)) ∧ SU enc k g T cs (W.alloc (LSo f lb sf sb)) dj w' ∧ w'.cell? ⟨W.heap.size, 0, none⟩ = some (.func (.func f) #[] lb) ∧ w'.cell? ⟨W.heap.size, 1, none⟩ = some (.func (.func sf) #[] sb) ∧
      (callFunc sf (#[.int .i64 i, .int .i64 j] ++ sb)).run Tryz.prog w' = .ok (.value (.tuple #[])) ((w'.setCells g (i * k) (enc dj[j]!)).setCells g (j * k) (enc dj[i]!)) := by
  have hg := h0.lt
  refine (hL.on (h0.more (Up.al _ (Up.rfl' W))) dj wr hS hd i j hi hj).mono ?_
  rintro e w' ⟨he, hu⟩
  have hS' := hS.more hu
  have hs := hsw w' dj hS'.hold hd i j hi hj
  rw [Nat.zero_add, Nat.zero_add] at hs
  exact ⟨he, hS', by rw [hS'.oth (by simp) (by omega)]; simp, by rw [hS'.oth (by simp) (by omega)]; simp, hs⟩
theorem insSort_w {lt : α → α → Bool} (eg : ∀ args w, (callFunc f args).run Tryz.prog w = .ok (.enter f args) w) {d : Array α} {W : World} (hd : d.size = n) (h0 : SU enc k g T cs W d W) (hL : LessU f lb enc k lt g T cs n W) (a b : Nat) (hab : a ≤ b) (hb : b ≤ n) :
    Calls Tryz.prog 268 #[LS f lb sf sb, .int .i64 a, .int .i64 b] W fun e w' => e = .returned (.tuple #[]) ∧ SU enc k g T cs W (Sort.insertionSort lt d a b) w' := by
  have hB : SU enc k g T cs W d (W.alloc (LSo f lb sf sb)) := h0.more (Up.al _ (Up.rfl' W))
  have hless := fun dj wr hS hd' i j hi hj => less_on (dj := dj) (wr := wr) f lb sf sb n hL h0 hS hd' hswap i j hi hj
  have HB : Hid (SU enc k g T cs W d (W.alloc (LSo f lb sf sb))) := hB
  have hg := h0.lt
  clear h0 hL
  go_enter Tryz.func268, Tryz.ntmps268
  go_wp2
  go_loopw [6] (fun vi wr => ∃ (i : Nat) (dk : Array α), vi = .int .i64 i ∧ a < i ∧ i ≤ b + 1 ∧ dk.size = n ∧ SU enc k g T cs (W.alloc (LSo f lb sf sb)) dk wr ∧
      insOuter lt a b i dk = insOuter lt a b (a + 1) d) (fun vi _ => b + 1 - (intOf vi).toNat)
  case atStart => exact ⟨a + 1, d, by go_num, by omega, by omega, hd, hB.self, rfl⟩
  case round =>
    obtain ⟨i, dk, rfl, hai, hib, hsk, hwr, hO⟩ := hrel
    have HO : Hid (insOuter lt a b i dk = insOuter lt a b (a + 1) d) := hO
    clear hO
    go_wp2
    · go_loopw [7] (fun vj wr2 => ∃ (j : Nat) (dj : Array α), vj = .int .i64 j ∧ a ≤ j ∧ j ≤ i ∧ dj.size = n ∧ SU enc k g T cs (W.alloc (LSo f lb sf sb)) dj wr2 ∧
          insInner lt a j dj = insInner lt a i dk) (fun vj _ => (intOf vj).toNat)
      case atStart => exact ⟨i, dk, rfl, by omega, Nat.le_refl _, hsk, hwr, rfl⟩
      case round =>
        obtain ⟨j, dj, rfl, haj, hji, hsj, hw2, hI⟩ := hrel
        have hlt : i < b := by assumption
        have c0 : wr.cell? ⟨W.heap.size, 0, none⟩ = some (.func (.func f) #[] lb) := by rw [hw2.oth (by simp) (by omega)]; simp
        have c1 : wr.cell? ⟨W.heap.size, 1, none⟩ = some (.func (.func sf) #[] sb) := by rw [hw2.oth (by simp) (by omega)]; simp
        have HW : Hid (SU enc k g T cs (W.alloc (LSo f lb sf sb)) dj wr) := hw2
        have HI : Hid (insInner lt a j dj = insInner lt a i dk) := hI
        clear hw2 hI hwr hB
        have out : (j ≤ a ∨ lt dj[j]! dj[j - 1]! = false) → ∀ W', SU enc k g T cs (W.alloc (LSo f lb sf sb)) dj W' → ∃ (i' : Nat) (dk' : Array α), Value.int .i64 ((i : Int) + 1) = .int .i64 (i' : Nat) ∧ a < i' ∧ i' ≤ b + 1 ∧ dk'.size = n ∧
            SU enc k g T cs (W.alloc (LSo f lb sf sb)) dk' W' ∧ insOuter lt a b i' dk' = insOuter lt a b (a + 1) d := fun hs W' hW =>
          ⟨i + 1, dj, by go_num, by omega, by omega, hsj, hW,
            by rw [← HO.out, insOuter_go _ _ _ _ _ hlt, ← HI.out, insInner_stop _ _ _ _ hs]⟩
        have OUT : Hid _ := out
        clear out
        by_cases hja : a < j
        · have hl := hless dj wr HW.out hsj j (j - 1) (by omega) (by omega)
          rw [show (((j - 1 : Nat) : Int)) = (j : Int) - 1 by omega] at hl
          clear hless
          cases hlv : lt dj[j]! dj[j - 1]! with
          | true =>
            rw [hlv] at hl
            go_wp2_with (go_at_fn f; refine hl.mono ?_; rintro e w' ⟨rfl, hS, c0', c1', hs⟩)
            refine ⟨?_, by simp [intOf]; omega⟩
            (repeat apply Exists.intro)
            refine ⟨⟨j - 1, swp dj j (j - 1), by congr 1 <;> omega, by omega, by omega, by rw [size_swp]; exact hsj, hS.swap hk (by omega) (by omega), ?_⟩, by rw [decide_eq_true hlt, show ((j - 1 : Nat) : Int) = (j : Int) - 1 by omega]⟩
            rw [← HI.out, insInner_go lt a j dj hja hlv]
          | false =>
            rw [hlv] at hl
            go_wp2_with (go_at_fn f; refine hl.mono ?_; rintro e w' ⟨rfl, hS, c0', c1', hs⟩)
            exact ⟨OUT.out (.inr hlv) _ hS, by simp [intOf]; omega⟩
        · go_wp2
          exact ⟨OUT.out (.inl (by omega)) _ HW.out, by simp [intOf]; omega⟩
    · have hge : ¬ i < b := by assumption
      go_end0
      exact ⟨rfl, by unfold Sort.insertionSort; rw [← HO.out, insOuter_stop _ _ _ _ _ hge]; exact HB.out.trans hwr⟩
end
end Go.Proofs.YtmcdjilbkmhfoaaGreat
namespace Go.Proofs.YtmcdjilbkmhfoaaGreat
set_option maxRecDepth 10000
open Go.RowKit Go.Lib Go.Sort
set_option linter.unusedVariables false
set_option linter.unusedSimpArgs false
set_option linter.unusedSectionVars false
set_option maxRecDepth 100000
set_option maxHeartbeats 4000000
section
variable {α : Type} [Inhabited α] {enc : α → List Value} {k : Nat} {g : Nat} {T : TypeId} {cs : Nat}
variable (hk : ∀ x, (enc x).length = k) (f : Nat) (lb : Array Value) (sf : Nat) (sb : Array Value) (n : Nat) (hn : n < 1152921504606846976) (hswap : SwapSwapsK Tryz.prog sf sb enc k g 0 n)
include hk hn hswap
theorem symA_w {lt : α → α → Bool} (hO : SWO lt) (eg : ∀ args w, (callFunc f args).run Tryz.prog w = .ok (.enter f args) w) {d : Array α} {W : World} (hd : d.size = n) (h0 : SU enc k g T cs W d W) (hL : LessU f lb enc k lt g T cs n W) (a m b : Nat) (h1 : m = a + 1) (h2 : m < b) (hb : b ≤ n) (hs : SortedIn lt m b d) :
    Calls Tryz.prog 269 #[LS f lb sf sb, .int .i64 a, .int .i64 m, .int .i64 b] W fun e w' => e = .returned (.tuple #[]) ∧ ∃ e, SU enc k g T cs W e w' ∧ PermIn a b d e ∧ SortedIn lt a b e := by
  have hB : SU enc k g T cs W d (W.alloc (LSo f lb sf sb)) := h0.more (Up.al _ (Up.rfl' W))
  have hless := fun dj wr hS hd' i j hi hj => less_on (dj := dj) (wr := wr) f lb sf sb n hL h0 hS hd' hswap i j hi hj
  have HB : Hid (SU enc k g T cs W d (W.alloc (LSo f lb sf sb))) := hB
  have HSs : Hid (SortedIn lt m b d) := hs
  have hg := h0.lt
  clear h0 hL hs
  have hma : (m : Int) - (a : Int) = 1 := by omega
  have H1 : Hid (m = a + 1) := h1
  clear h1
  go_enter Tryz.func269, Tryz.ntmps269
  go_wp2
  go_loopw [8, 9] (fun vi vj wr => ∃ (i j : Nat), vi = .int .i64 i ∧ vj = .int .i64 j ∧ m ≤ i ∧ i ≤ j ∧ j ≤ b ∧ (i = m ∨ lt d[i - 1]! d[a]! = true) ∧ (j = b ∨ lt d[j]! d[a]! = false) ∧ SU enc k g T cs (W.alloc (LSo f lb sf sb)) d wr) (fun vi vj _ => (intOf vj).toNat - (intOf vi).toNat)
  case atStart => exact ⟨m, b, rfl, rfl, by omega, by omega, by omega, .inl rfl, .inl rfl, hB.self⟩
  case round =>
    obtain ⟨i, j, rfl, rfl, hi, hij, hj, hc1, hc2, hS⟩ := hrel
    have c0 : wr.cell? ⟨W.heap.size, 0, none⟩ = some (.func (.func f) #[] lb) := by rw [hS.oth (by simp) (by omega)]; simp
    have c1 : wr.cell? ⟨W.heap.size, 1, none⟩ = some (.func (.func sf) #[] sb) := by rw [hS.oth (by simp) (by omega)]; simp
    have HS : Hid (SU enc k g T cs (W.alloc (LSo f lb sf sb)) d wr) := hS
    have HC1 : Hid (i = m ∨ lt d[i - 1]! d[a]! = true) := hc1
    have HC2 : Hid (j = b ∨ lt d[j]! d[a]! = false) := hc2
    clear hS hB hc1 hc2
    by_cases hlt : i < j
    · have hl := hless d wr HS.out hd ((i + j) / 2) a (by omega) (by omega)
      rw [show (((i + j) / 2 : Nat) : Int) = ((i : Int) + (j : Int)) / 2 by omega] at hl
      clear hless
      cases hlv : lt d[(i + j) / 2]! d[a]! with
      | true =>
        rw [hlv] at hl
        go_wp2_with (go_at_fn f; refine hl.mono ?_; rintro e w' ⟨rfl, hS, c0', c1', _⟩)
        refine ⟨?_, by simp [intOf]; omega⟩
        exact ⟨(i + j) / 2 + 1, j, by go_num, rfl, by omega, by omega, by omega, .inr (by rw [Nat.add_sub_cancel]; exact hlv), HC2.out, hS⟩
      | false =>
        rw [hlv] at hl
        go_wp2_with (go_at_fn f; refine hl.mono ?_; rintro e w' ⟨rfl, hS, c0', c1', _⟩)
        refine ⟨?_, by simp [intOf]; omega⟩
        exact ⟨i, (i + j) / 2, rfl, by go_num, by omega, by omega, by omega, HC1.out, .inr hlv, hS⟩
    · have hij' : i = j := by omega
      subst hij'
      go_wp2
      go_loopw [11] (fun vq wr2 => ∃ q : Nat, vq = .int .i64 ((a : Int) + (q : Int)) ∧ a + q + 1 ≤ i ∧ SU enc k g T cs (W.alloc (LSo f lb sf sb)) (shU d a q) wr2) (fun vq _ => i - (intOf vq).toNat)
      case atStart => exact ⟨0, by go_num, by omega, HS.out⟩
      case round =>
        obtain ⟨q, rfl, hq, hS2⟩ := hrel
        have c0 : wr.cell? ⟨W.heap.size, 0, none⟩ = some (.func (.func f) #[] lb) := by rw [hS2.oth (by simp) (by omega)]; simp
        have c1 : wr.cell? ⟨W.heap.size, 1, none⟩ = some (.func (.func sf) #[] sb) := by rw [hS2.oth (by simp) (by omega)]; simp
        have HS2 : Hid (SU enc k g T cs (W.alloc (LSo f lb sf sb)) (shU d a q) wr) := hS2
        clear hS2
        by_cases hqi : a + q + 1 < i
        · have hs := hswap wr (shU d a q) HS2.out.hold (by rw [shU_size]; exact hd) (a + q) (a + q + 1) (by omega) (by omega)
          rw [Nat.zero_add, Nat.zero_add, show ((a + q + 1 : Nat) : Int) = (a : Int) + (q : Int) + 1 by omega, show ((a + q : Nat) : Int) = (a : Int) + (q : Int) by omega] at hs
          have hlt2 : (a : Int) + (q : Int) < (i : Int) - 1 := by omega
          go_wp2
          exact ⟨⟨q + 1, by congr 1, by omega, HS2.out.swap hk (by rw [shU_size]; omega) (by rw [shU_size]; omega)⟩, by simp [intOf]; omega⟩
        · have hge2 : ¬ (a : Int) + (q : Int) < (i : Int) - 1 := by omega
          go_wp2
          (try simp only [Exit.inBlock, Exit.then])
          refine bodyPost_ret (results_none rfl _ _ _) rfl ?_
          refine ⟨rfl, shU d a q, HB.out.trans HS2.out, shU_perm d q (by omega) (by omega), ?_⟩
          obtain rfl := H1.out
          exact ins_left hO HSs.out (by omega) hj HC1.out HC2.out (fun k => by rw [show i = a + 1 + q by omega]; exact shU_get d q (by omega) k)
theorem symB_w {lt : α → α → Bool} (hO : SWO lt) (eg : ∀ args w, (callFunc f args).run Tryz.prog w = .ok (.enter f args) w) {d : Array α} {W : World} (hd : d.size = n) (h0 : SU enc k g T cs W d W) (hL : LessU f lb enc k lt g T cs n W) (a m b : Nat) (h1 : b = m + 1) (h2 : a + 1 < m) (hb : b ≤ n) (hs : SortedIn lt a m d) :
    Calls Tryz.prog 269 #[LS f lb sf sb, .int .i64 a, .int .i64 m, .int .i64 b] W fun e w' => e = .returned (.tuple #[]) ∧ ∃ e, SU enc k g T cs W e w' ∧ PermIn a b d e ∧ SortedIn lt a b e := by
  have hB : SU enc k g T cs W d (W.alloc (LSo f lb sf sb)) := h0.more (Up.al _ (Up.rfl' W))
  have hless := fun dj wr hS hd' i j hi hj => less_on (dj := dj) (wr := wr) f lb sf sb n hL h0 hS hd' hswap i j hi hj
  have HB : Hid (SU enc k g T cs W d (W.alloc (LSo f lb sf sb))) := hB
  have HSs : Hid (SortedIn lt a m d) := hs
  have hg := h0.lt
  clear h0 hL hs
  have hna : ((m : Int) - (a : Int) == 1) = false := by simp; omega
  have hmb : (b : Int) - (m : Int) = 1 := by omega
  have H1 : Hid (b = m + 1) := h1
  have hlt3 : m < b := by omega
  clear h1
  go_enter Tryz.func269, Tryz.ntmps269
  go_wp2
  clear hna hmb
  go_loopw [12, 13] (fun vi vj wr => ∃ (i j : Nat), vi = .int .i64 i ∧ vj = .int .i64 j ∧ a ≤ i ∧ i ≤ j ∧ j ≤ m ∧ (i = a ∨ lt d[m]! d[i - 1]! = false) ∧ (j = m ∨ lt d[m]! d[j]! = true) ∧ SU enc k g T cs (W.alloc (LSo f lb sf sb)) d wr) (fun vi vj _ => (intOf vj).toNat - (intOf vi).toNat)
  case atStart => exact ⟨a, m, rfl, rfl, by omega, by omega, by omega, .inl rfl, .inl rfl, hB.self⟩
  case round =>
    obtain ⟨i, j, rfl, rfl, hi, hij, hj, hc1, hc2, hS⟩ := hrel
    have c0 : wr.cell? ⟨W.heap.size, 0, none⟩ = some (.func (.func f) #[] lb) := by rw [hS.oth (by simp) (by omega)]; simp
    have c1 : wr.cell? ⟨W.heap.size, 1, none⟩ = some (.func (.func sf) #[] sb) := by rw [hS.oth (by simp) (by omega)]; simp
    have HS : Hid (SU enc k g T cs (W.alloc (LSo f lb sf sb)) d wr) := hS
    have HC1 : Hid (i = a ∨ lt d[m]! d[i - 1]! = false) := hc1
    have HC2 : Hid (j = m ∨ lt d[m]! d[j]! = true) := hc2
    clear hS hB hc1 hc2
    by_cases hlt : i < j
    · have hl := hless d wr HS.out hd m ((i + j) / 2) (by omega) (by omega)
      rw [show (((i + j) / 2 : Nat) : Int) = ((i : Int) + (j : Int)) / 2 by omega] at hl
      clear hless
      cases hlv : lt d[m]! d[(i + j) / 2]! with
      | true =>
        rw [hlv] at hl
        go_wp2_with (go_at_fn f; refine hl.mono ?_; rintro e w' ⟨rfl, hS, c0', c1', _⟩)
        refine ⟨?_, by simp [intOf]; omega⟩
        exact ⟨i, (i + j) / 2, rfl, by go_num, by omega, by omega, by omega, HC1.out, .inr hlv, hS⟩
      | false =>
        rw [hlv] at hl
        go_wp2_with (go_at_fn f; refine hl.mono ?_; rintro e w' ⟨rfl, hS, c0', c1', _⟩)
        refine ⟨?_, by simp [intOf]; omega⟩
        exact ⟨(i + j) / 2 + 1, j, by go_num, rfl, by omega, by omega, by omega, .inr (by rw [Nat.add_sub_cancel]; exact hlv), HC2.out, hS⟩
    · have hij' : i = j := by omega
      subst hij'
      go_wp2
      go_loopw [15] (fun vq wr2 => ∃ q : Nat, vq = .int .i64 ((m : Int) - (q : Int)) ∧ q + i ≤ m ∧ SU enc k g T cs (W.alloc (LSo f lb sf sb)) (shD d m q) wr2) (fun vq _ => (intOf vq).toNat)
      case atStart => exact ⟨0, by go_num, by omega, HS.out⟩
      case round =>
        obtain ⟨q, rfl, hq, hS2⟩ := hrel
        have c0 : wr.cell? ⟨W.heap.size, 0, none⟩ = some (.func (.func f) #[] lb) := by rw [hS2.oth (by simp) (by omega)]; simp
        have c1 : wr.cell? ⟨W.heap.size, 1, none⟩ = some (.func (.func sf) #[] sb) := by rw [hS2.oth (by simp) (by omega)]; simp
        have HS2 : Hid (SU enc k g T cs (W.alloc (LSo f lb sf sb)) (shD d m q) wr) := hS2
        clear hS2
        by_cases hqi : q + i < m
        · have hs := hswap wr (shD d m q) HS2.out.hold (by rw [shD_size]; exact hd) (m - q) (m - q - 1) (by omega) (by omega)
          rw [Nat.zero_add, Nat.zero_add, show ((m - q - 1 : Nat) : Int) = (m : Int) - (q : Int) - 1 by omega, show ((m - q : Nat) : Int) = (m : Int) - (q : Int) by omega] at hs
          have hlt2 : (i : Int) < (m : Int) - (q : Int) := by omega
          go_wp2
          exact ⟨⟨q + 1, by congr 1; omega, by omega, HS2.out.swap hk (by rw [shD_size]; omega) (by rw [shD_size]; omega)⟩, by simp [intOf]; omega⟩
        · have hge2 : ¬ (i : Int) < (m : Int) - (q : Int) := by omega
          go_wp2
          (try simp only [Exit.inBlock, Exit.then])
          refine bodyPost_ret (results_none rfl _ _ _) rfl ?_
          obtain rfl := H1.out
          refine ⟨rfl, shD d m q, HB.out.trans HS2.out, shD_perm d q (by omega) (by omega), ?_⟩
          exact ins_right hO HSs.out hi hj HC1.out HC2.out (fun k => by rw [show i = m - q by omega]; exact shD_get d q (by omega) (by omega) k)
end
end Go.Proofs.YtmcdjilbkmhfoaaGreat
namespace Go.Proofs.YtmcdjilbkmhfoaaGreat
set_option maxRecDepth 10000
open Go.RowKit Go.Lib Go.Sort
set_option linter.unusedVariables false
set_option linter.unusedSimpArgs false
set_option linter.unusedSectionVars false
set_option maxRecDepth 100000
set_option maxHeartbeats 4000000
section
variable {α : Type} [Inhabited α] {enc : α → List Value} {k : Nat} {g : Nat} {T : TypeId} {cs : Nat}
variable (hk : ∀ x, (enc x).length = k) (f : Nat) (lb : Array Value) (sf : Nat) (sb : Array Value) (n : Nat) (hn : n < 1152921504606846976) (hswap : SwapSwapsK Tryz.prog sf sb enc k g 0 n)
include hk hn hswap
theorem symM_w {lt : α → α → Bool} (hO : SWO lt) (eg : ∀ args w, (callFunc f args).run Tryz.prog w = .ok (.enter f args) w) : ∀ (N : Nat) (d : Array α) (W : World), d.size = n → SU enc k g T cs W d W → LessU f lb enc k lt g T cs n W → ∀ (a m b : Nat), b - a ≤ N → a < m → m < b → b ≤ n → SortedIn lt a m d → SortedIn lt m b d →
    Calls Tryz.prog 269 #[LS f lb sf sb, .int .i64 a, .int .i64 m, .int .i64 b] W fun e w' => e = .returned (.tuple #[]) ∧ ∃ e, SU enc k g T cs W e w' ∧ PermIn a b d e ∧ SortedIn lt a b e := by
  intro N
  induction N with
  | zero => intro d W hd h0 hL a m b hN h1 h2; omega
  | succ N ih =>
  intro d W hd h0 hL a m b hN h1 h2 hb hs1 hs2
  by_cases hma : m = a + 1
  · exact symA_w hk f lb sf sb n hn hswap hO eg hd h0 hL a m b hma h2 hb hs2
  by_cases hmb : b = m + 1
  · exact symB_w hk f lb sf sb n hn hswap hO eg hd h0 hL a m b hmb (by omega) hb hs1
  have hB : SU enc k g T cs W d (W.alloc (LSo f lb sf sb)) := h0.more (Up.al _ (Up.rfl' W))
  have hless := fun dj wr hS hd' i j hi hj => less_on (dj := dj) (wr := wr) f lb sf sb n hL h0 hS hd' hswap i j hi hj
  have HL : Hid (∀ d' W', SU enc k g T cs (W.alloc (LSo f lb sf sb)) d' W' → LessU f lb enc k lt g T cs n W') := fun d' W' h' => hL.on (hB.trans h')
  have HB : Hid (SU enc k g T cs W d (W.alloc (LSo f lb sf sb))) := hB
  have HS1 : Hid (SortedIn lt a m d) := hs1
  have HS2 : Hid (SortedIn lt m b d) := hs2
  have hrot := fun (d' : Array α) (W' : World) (hd' : d'.size = n) (h' : SU enc k g T cs W' d' W') (a m b : Nat) (h1 : a ≤ m) (h2 : m ≤ b) (h3 : b ≤ n) (h4 : a < m ∧ m < b) => rotate_w hk f lb sf sb n hn hswap (T := T) (cs := cs) hd' h' a m b h1 h2 h3 h4
  have HR : Hid _ := hrot
  have HI : Hid _ := ih
  have HLS : Hid _ := hless
  have hg := h0.lt
  clear h0 hL hs1 hs2 hrot ih hless
  have hna : ((m : Int) - (a : Int) == 1) = false := by simp; omega
  have hnb : ((b : Int) - (m : Int) == 1) = false := by simp; omega
  have hmid : ((a : Int) + (b : Int)) / 2 = (((a + b) / 2 : Nat) : Int) := by omega
  obtain ⟨mid, hmd⟩ : ∃ mid, mid = (a + b) / 2 := ⟨_, rfl⟩
  rw [← hmd] at hmid
  have hm1 : 2 * mid ≤ a + b := by omega
  have hm2 : a + b ≤ 2 * mid + 1 := by omega
  clear hmd hma hmb
  go_enter Tryz.func269, Tryz.ntmps269
  go_upto_if 106 with (fail)
  go_cut [18, 19] (fun s18 s19 wx => ∃ s0 r0 : Nat, s18 = .int .i64 s0 ∧ s19 = .int .i64 r0 ∧ a ≤ s0 ∧ s0 ≤ r0 ∧ r0 ≤ m ∧ r0 ≤ mid ∧ ((m ≤ mid ∧ s0 = a ∧ r0 = m) ∨ (mid < m ∧ s0 + b = mid + m ∧ r0 = mid)) ∧ wx = W.alloc (LSo f lb sf sb))
  case first =>
    by_cases hmm : mid < m
    · have hmm' : (mid : Int) < (m : Int) := by omega
      go_wp2
      go_meet
      exact ⟨mid + m - b, mid, by go_num, rfl, by omega, by omega, by omega, by omega, .inr ⟨hmm, by omega, rfl⟩, rfl⟩
    · have hmm' : ¬ (mid : Int) < (m : Int) := by omega
      go_wp2
      go_meet
      exact ⟨a, m, rfl, rfl, by omega, by omega, by omega, by omega, .inl ⟨by omega, rfl, rfl⟩, rfl⟩
  case rest =>
    obtain ⟨s0, r0, rfl, rfl, ha0, hsr, hrm, hrd, hs0, rfl⟩ := hcut
    clear hna hnb hmid hB
    have HS0 : Hid ((m ≤ mid ∧ s0 = a ∧ r0 = m) ∨ (mid < m ∧ s0 + b = mid + m ∧ r0 = mid)) := hs0
    clear hs0
    go_wp2
    go_loopw [18, 19] (fun vs vr wr => ∃ (s r : Nat), vs = .int .i64 s ∧ vr = .int .i64 r ∧ s0 ≤ s ∧ s ≤ r ∧ r ≤ r0 ∧ (s = s0 ∨ lt d[mid + m - s]! d[s - 1]! = false) ∧ (r = r0 ∨ lt d[mid + m - 1 - r]! d[r]! = true) ∧ SU enc k g T cs (W.alloc (LSo f lb sf sb)) d wr) (fun vs vr _ => (intOf vr).toNat - (intOf vs).toNat)
    case atStart => exact ⟨s0, r0, rfl, rfl, by omega, by omega, by omega, .inl rfl, .inl rfl, HB.out.self⟩
    case round =>
      obtain ⟨s, r, rfl, rfl, hs, hsr2, hr, hc1, hc2, hS⟩ := hrel
      have c0 : wr.cell? ⟨W.heap.size, 0, none⟩ = some (.func (.func f) #[] lb) := by rw [hS.oth (by simp) (by omega)]; simp
      have c1 : wr.cell? ⟨W.heap.size, 1, none⟩ = some (.func (.func sf) #[] sb) := by rw [hS.oth (by simp) (by omega)]; simp
      have HS : Hid (SU enc k g T cs (W.alloc (LSo f lb sf sb)) d wr) := hS
      have HC1 : Hid (s = s0 ∨ lt d[mid + m - s]! d[s - 1]! = false) := hc1
      have HC2 : Hid (r = r0 ∨ lt d[mid + m - 1 - r]! d[r]! = true) := hc2
      clear hS hc1 hc2
      by_cases hlt : s < r
      · have hq : mid + m - 1 - (s + r) / 2 < n := by rcases HS0.out with h | h <;> omega
        have hl := HLS.out d wr HS.out hd (mid + m - 1 - (s + r) / 2) ((s + r) / 2) hq (by omega)
        rw [show ((mid + m - 1 - (s + r) / 2 : Nat) : Int) = (mid : Int) + (m : Int) - 1 - ((s : Int) + (r : Int)) / 2 by omega, show (((s + r) / 2 : Nat) : Int) = ((s : Int) + (r : Int)) / 2 by omega] at hl
        cases hlv : lt d[mid + m - 1 - (s + r) / 2]! d[(s + r) / 2]! with
        | true =>
          rw [hlv] at hl
          go_wp2_with (go_at_fn f; refine hl.mono ?_; rintro e w' ⟨rfl, hS, c0', c1', _⟩)
          refine ⟨?_, by simp [intOf]; omega⟩
          exact ⟨s, (s + r) / 2, rfl, by go_num, by omega, by omega, by omega, HC1.out, .inr hlv, hS⟩
        | false =>
          rw [hlv] at hl
          go_wp2_with (go_at_fn f; refine hl.mono ?_; rintro e w' ⟨rfl, hS, c0', c1', _⟩)
          refine ⟨?_, by simp [intOf]; omega⟩
          exact ⟨(s + r) / 2 + 1, r, by go_num, rfl, by omega, by omega, by omega, .inr (by rw [Nat.add_sub_cancel, show mid + m - ((s + r) / 2 + 1) = mid + m - 1 - (s + r) / 2 by omega]; exact hlv), HC2.out, hS⟩
      · have hsr' : s = r := by omega
        subst hsr'
        have hge : ¬ s < s := by omega
        obtain ⟨t, ht⟩ : ∃ t, t = mid + m - s := ⟨_, rfl⟩
        have htz : (mid : Int) + (m : Int) - (s : Int) = (t : Int) := by omega
        have hms : m ≤ t := by omega
        have hst : s + (t - m) = mid := by omega
        have htb : t ≤ b := by rcases HS0.out with h | h <;> omega
        have HT : Hid (t = mid + m - s) := ht
        clear ht
        have dz : ∀ x y : Nat, decide ((x : Int) < (y : Int)) = decide (x < y) := fun x y => by by_cases h : x < y <;> simp [h]
        have DZ : Hid _ := dz
        clear dz
        clear hge
        have HC1' : Hid (a < s → t < b → lt d[t]! d[s - 1]! = false) := fun h1 h2 => by
          rcases HC1.out with h | h
          · rcases HS0.out with h3 | h3 <;> omega
          · rw [HT.out]; exact h
        have HC2' : Hid (s < m → m < t → lt d[t - 1]! d[s]! = true) := fun h1 h2 => by
          rcases HC2.out with h | h
          · rcases HS0.out with h3 | h3 <;> omega
          · rw [show t - 1 = mid + m - 1 - s by rw [HT.out]; omega]; exact h
        go_upto_region 40 with (fail)
        go_cut [145] (fun s145 wx => s145 = .bool (decide (s < m ∧ m < t)) ∧ wx = wr)
        case first =>
          by_cases q1 : s < m
          · by_cases q2 : m < t
            · have q3 : decide (s < m ∧ m < t) = true := decide_eq_true ⟨q1, q2⟩
              go_wp2
              go_meet
              exact ⟨by rw [q3], rfl⟩
            · have q3 : decide (s < m ∧ m < t) = false := decide_eq_false fun h => q2 h.2
              go_wp2
              go_meet
              exact ⟨by rw [q3], rfl⟩
          · have q3 : decide (s < m ∧ m < t) = false := decide_eq_false fun h => q1 h.1
            go_wp2
            go_meet
            exact ⟨by rw [q3], rfl⟩
        case rest =>
        obtain ⟨rfl, rfl⟩ := hcut
        go_upto_if 145 with (fail)
        go_cut [] (fun wx => ∃ e, SU enc k g T cs (W.alloc (LSo f lb sf sb)) e wx ∧ PermIn a b d e ∧ ∀ k, e[k]! = rotF d s m t k)
        case first =>
          by_cases q : s < m ∧ m < t
          · have q3 : decide (s < m ∧ m < t) = true := decide_eq_true q
            have hc := HR.out d wc hd HS.out.self s m t (by omega) (by omega) (by omega) q
            go_wp2_with (go_at_call 273; refine hc.mono ?_; rintro e w' ⟨rfl, hE⟩)
            go_meet
            obtain ⟨e, hE1, hE2, hE3⟩ := hE
            exact ⟨e, HS.out.trans hE1, permIn_mono _ _ _ _ _ _ (by omega) (by omega) (by omega) hE2, hE3⟩
          · have q3 : decide (s < m ∧ m < t) = false := decide_eq_false q
            go_wp2
            go_meet
            exact ⟨d, HS.out, permIn_refl _ _ _, fun k => rotF_none d (by omega) (by omega) (by omega) k⟩
        case rest =>
        obtain ⟨e, hE1, hE2, hE3⟩ := hcut
        obtain ⟨g1, g2, g3, g4, g5⟩ := halves hO HS1.out HS2.out ⟨by omega, by omega⟩ ⟨hms, htb⟩ hst HC1'.out HC2'.out hE3
        have G1 : Hid (SortedIn lt a s e) := g1
        have G2 : Hid (SortedIn lt s mid e) := g2
        have G3 : Hid (SortedIn lt mid t e) := g3
        have G4 : Hid (SortedIn lt t b e) := g4
        have G5 : Hid (∀ i j, a ≤ i → i < mid → mid ≤ j → j < b → lt e[j]! e[i]! = false) := g5
        have hed : e.size = n := hE2.1.trans hd
        have c0 : wc.cell? ⟨W.heap.size, 0, none⟩ = some (.func (.func f) #[] lb) := by rw [hE1.oth (by simp) (by omega)]; simp
        have c1 : wc.cell? ⟨W.heap.size, 1, none⟩ = some (.func (.func sf) #[] sb) := by rw [hE1.oth (by simp) (by omega)]; simp
        have HE1 : Hid (SU enc k g T cs (W.alloc (LSo f lb sf sb)) e wc) := hE1
        have HE2 : Hid (PermIn a b d e) := hE2
        clear g1 g2 g3 g4 g5 hE1 hE2 hE3
        go_upto_region 42 with (fail)
        go_cut [158] (fun s158 wx => s158 = .bool (decide (a < s ∧ s < mid)) ∧ wx = wc)
        case first =>
          by_cases q1 : a < s
          · by_cases q2 : s < mid
            · have q3 : decide (a < s ∧ s < mid) = true := decide_eq_true ⟨q1, q2⟩
              go_wp2
              go_meet
              exact ⟨by rw [q3], rfl⟩
            · have q3 : decide (a < s ∧ s < mid) = false := decide_eq_false fun h => q2 h.2
              go_wp2
              go_meet
              exact ⟨by rw [q3], rfl⟩
          · have q3 : decide (a < s ∧ s < mid) = false := decide_eq_false fun h => q1 h.1
            go_wp2
            go_meet
            exact ⟨by rw [q3], rfl⟩
        case rest =>
        obtain ⟨rfl, rfl⟩ := hcut
        go_upto_if 158 with (fail)
        go_cut [] (fun wx => ∃ e1, SU enc k g T cs (W.alloc (LSo f lb sf sb)) e1 wx ∧ PermIn a mid e e1 ∧ SortedIn lt a mid e1)
        case first =>
          by_cases q : a < s ∧ s < mid
          · have q3 : decide (a < s ∧ s < mid) = true := decide_eq_true q
            have hc := HI.out e _ hed HE1.out.self (HL.out e _ HE1.out) a s mid (by omega) q.1 q.2 (by omega) G1.out G2.out
            go_wp2_with (go_at_call 269; refine hc.mono ?_; rintro e' w' ⟨rfl, hE⟩)
            go_meet
            obtain ⟨e1, hE1, hE2, hE3⟩ := hE
            exact ⟨e1, HE1.out.trans hE1, hE2, hE3⟩
          · have q3 : decide (a < s ∧ s < mid) = false := decide_eq_false q
            go_wp2
            go_meet
            refine ⟨e, HE1.out, permIn_refl _ _ _, ?_⟩
            by_cases q4 : a < s
            · exact srt_sub G1.out (Nat.le_refl _) (by omega)
            · exact srt_sub G2.out (by omega) (Nat.le_refl _)
        case rest =>
        obtain ⟨e1, hF1, hF2, hF3⟩ := hcut
        have hed1 : e1.size = n := hF2.1.trans hed
        have g3 : SortedIn lt mid t e1 := srt_eq G3.out fun k h1 h2 => hF2.2.1 k (.inr h1)
        have g4 : SortedIn lt t b e1 := srt_eq G4.out fun k h1 h2 => hF2.2.1 k (.inr (by omega))
        have c0' : wc.cell? ⟨W.heap.size, 0, none⟩ = some (.func (.func f) #[] lb) := by rw [hF1.oth (by simp) (by omega)]; simp
        have c1' : wc.cell? ⟨W.heap.size, 1, none⟩ = some (.func (.func sf) #[] sb) := by rw [hF1.oth (by simp) (by omega)]; simp
        have K3 : Hid (SortedIn lt mid t e1) := g3
        have K4 : Hid (SortedIn lt t b e1) := g4
        have HF1 : Hid (SU enc k g T cs (W.alloc (LSo f lb sf sb)) e1 wc) := hF1
        have HF2 : Hid (PermIn a mid e e1) := hF2
        have HF3 : Hid (SortedIn lt a mid e1) := hF3
        clear g3 g4 hF1 hF2 hF3
        have fin : ∀ w' e2, SU enc k g T cs (W.alloc (LSo f lb sf sb)) e2 w' → PermIn mid b e1 e2 → SortedIn lt mid b e2 → ∃ e, SU enc k g T cs W e w' ∧ PermIn a b d e ∧ SortedIn lt a b e := fun w' e2 h1 h2 h3 => by
          obtain ⟨x1, x2⟩ := glue hO (by omega) (by omega) (by omega) HF2.out h2 HF3.out h3 G5.out
          exact ⟨e2, HB.out.trans h1, permIn_trans _ _ _ _ _ HE2.out x1, x2⟩
        have FIN : Hid _ := fin
        clear fin
        go_upto_region 44 with (fail)
        go_cut [171] (fun s171 wx => s171 = .bool (decide (mid < t ∧ t < b)) ∧ wx = wc)
        case first =>
          by_cases q1 : mid < t
          · by_cases q2 : t < b
            · have q3 : decide (mid < t ∧ t < b) = true := decide_eq_true ⟨q1, q2⟩
              go_wp2
              go_meet
              exact ⟨by rw [q3], rfl⟩
            · have q3 : decide (mid < t ∧ t < b) = false := decide_eq_false fun h => q2 h.2
              go_wp2
              go_meet
              exact ⟨by rw [q3], rfl⟩
          · have q3 : decide (mid < t ∧ t < b) = false := decide_eq_false fun h => q1 h.1
            go_wp2
            go_meet
            exact ⟨by rw [q3], rfl⟩
        case rest =>
        obtain ⟨rfl, rfl⟩ := hcut
        by_cases q : mid < t ∧ t < b
        · have q3 : decide (mid < t ∧ t < b) = true := decide_eq_true q
          have hc := HI.out e1 _ hed1 HF1.out.self (HL.out e1 _ HF1.out) mid t b (by omega) q.1 q.2 hb K3.out K4.out
          go_wp2_with (go_at_call 269; refine hc.mono ?_; rintro e' w' ⟨rfl, hE⟩)
          go_end0
          obtain ⟨e2, hE1, hE2, hE3⟩ := hE
          exact ⟨rfl, FIN.out _ e2 (HF1.out.trans hE1) hE2 hE3⟩
        · have q3 : decide (mid < t ∧ t < b) = false := decide_eq_false q
          go_wp2
          go_end0
          refine ⟨rfl, FIN.out _ e1 HF1.out (permIn_refl _ _ _) ?_⟩
          by_cases q4 : mid < t
          · exact srt_sub K3.out (Nat.le_refl _) (by omega)
          · exact srt_sub K4.out (by omega) (Nat.le_refl _)
end
end Go.Proofs.YtmcdjilbkmhfoaaGreat
namespace Go.Proofs.YtmcdjilbkmhfoaaGreat
set_option maxRecDepth 10000
open Go.RowKit Go.Lib Go.Sort
set_option linter.unusedVariables false
set_option linter.unusedSimpArgs false
set_option linter.unusedSectionVars false
set_option maxRecDepth 100000
set_option maxHeartbeats 4000000
section
variable {α : Type} [Inhabited α] {lt : α → α → Bool}
def MI (lt : α → α → Bool) (bs n q : Nat) (d : Array α) : Prop := (∀ p, p < q → SortedIn lt (p * (2 * bs)) (p * (2 * bs) + 2 * bs) d) ∧ ∀ p, 2 * q ≤ p → SortedIn lt (p * bs) (min (p * bs + bs) n) d
theorem mul2 (q bs : Nat) : (2 * q) * bs = q * (2 * bs) := by rw [Nat.mul_comm 2 q, Nat.mul_assoc]
theorem MI.zero {bs n : Nat} {d : Array α} (h : Runs lt bs n d) : MI lt bs n 0 d := ⟨fun p hp => by omega, fun p _ => h p⟩
theorem MI.left {bs n q A : Nat} {d : Array α} (h : MI lt bs n q d) (hA : A = q * (2 * bs)) (hn : A + bs ≤ n) : SortedIn lt A (A + bs) d := by
  have := h.2 (2 * q) (Nat.le_refl _)
  rw [mul2, ← hA, Nat.min_eq_left hn] at this
  exact this
theorem MI.right {bs n q A : Nat} {d : Array α} (h : MI lt bs n q d) (hA : A = q * (2 * bs)) : SortedIn lt (A + bs) (min (A + 2 * bs) n) d := by
  have := h.2 (2 * q + 1) (by omega)
  rw [Nat.add_mul, Nat.one_mul, mul2, ← hA, show A + bs + bs = A + 2 * bs by omega] at this
  exact this
theorem MI.last {bs n q A : Nat} {d : Array α} (h : MI lt bs n q d) (hA : A = q * (2 * bs)) (hn : n ≤ A + bs) : SortedIn lt A n d := by
  have := h.2 (2 * q) (Nat.le_refl _)
  rw [mul2, ← hA, Nat.min_eq_right hn] at this
  exact this
theorem MI.step {bs n q A : Nat} {d e : Array α} (h : MI lt bs n q d) (hA : A = q * (2 * bs)) (hp : PermIn A (A + 2 * bs) d e) (hs : SortedIn lt A (A + 2 * bs) e) : MI lt bs n (q + 1) e := by
  refine ⟨fun p hpq => ?_, fun p hpq => ?_⟩
  · rcases Nat.lt_or_ge p q with h1 | h1
    · have h2 : (p + 1) * (2 * bs) ≤ q * (2 * bs) := Nat.mul_le_mul_right _ h1
      rw [Nat.add_mul, Nat.one_mul] at h2
      exact srt_eq (h.1 p h1) fun k _ hk => hp.2.1 k (.inl (by omega))
    · have : p = q := by omega
      subst this
      rw [← hA]; exact hs
  · have h2 : (2 * (q + 1)) * bs ≤ p * bs := Nat.mul_le_mul_right _ hpq
    rw [mul2, Nat.add_mul, Nat.one_mul] at h2
    exact srt_eq (h.2 p (by omega)) fun k hk _ => hp.2.1 k (.inr (by omega))
theorem MI.fin {bs n q A : Nat} {d e : Array α} (h : MI lt bs n q d) (hA : A = q * (2 * bs)) (hn : n < A + 2 * bs) (hp : PermIn A n d e) (hs : SortedIn lt A n e) : Runs lt (2 * bs) n e := by
  intro p
  rcases Nat.lt_trichotomy p q with h1 | h1 | h1
  · have h2 : (p + 1) * (2 * bs) ≤ q * (2 * bs) := Nat.mul_le_mul_right _ h1
    rw [Nat.add_mul, Nat.one_mul] at h2
    exact srt_eq (srt_sub (h.1 p h1) (Nat.le_refl _) (Nat.min_le_left _ _)) fun k _ hk => hp.2.1 k (.inl (by omega))
  · subst h1
    rw [← hA, Nat.min_eq_right (by omega)]; exact hs
  · have h2 : (q + 1) * (2 * bs) ≤ p * (2 * bs) := Nat.mul_le_mul_right _ h1
    rw [Nat.add_mul, Nat.one_mul] at h2
    exact srt_one (by omega)
def BI (lt : α → α → Bool) (q : Nat) (d : Array α) : Prop := ∀ p, p < q → SortedIn lt (p * 20) (p * 20 + 20) d
theorem BI.step {q : Nat} {d e : Array α} (h : BI lt q d) (hp : PermIn (q * 20) (q * 20 + 20) d e) (hs : SortedIn lt (q * 20) (q * 20 + 20) e) : BI lt (q + 1) e := fun p hpq => by
  by_cases h1 : p = q
  · subst h1; exact hs
  · exact srt_eq (h p (by omega)) fun k _ hk => hp.2.1 k (.inl (by omega))
theorem BI.fin {q n : Nat} {d e : Array α} (h : BI lt q d) (hn : n < q * 20 + 20) (hp : PermIn (q * 20) n d e) (hs : SortedIn lt (q * 20) n e) : Runs lt 20 n e := fun p => by
  rcases Nat.lt_trichotomy p q with h1 | h1 | h1
  · exact srt_eq (srt_sub (h p h1) (Nat.le_refl _) (Nat.min_le_left _ _)) fun k _ hk => hp.2.1 k (.inl (by omega))
  · subst h1
    exact srt_sub hs (Nat.le_refl _) (Nat.min_le_right _ _)
  · exact srt_one (by omega)
variable {enc : α → List Value} {k : Nat} {g : Nat} {T : TypeId} {cs : Nat}
variable (hk : ∀ x, (enc x).length = k) (f : Nat) (lb : Array Value) (sf : Nat) (sb : Array Value) (n : Nat) (hn : n < 1152921504606846976) (hswap : SwapSwapsK Tryz.prog sf sb enc k g 0 n)
include hk hn hswap
theorem stable_w (hO : SWO lt) (eg : ∀ args w, (callFunc f args).run Tryz.prog w = .ok (.enter f args) w) {d : Array α} {W : World} (hd : d.size = n) (h0 : SU enc k g T cs W d W) (hL : LessU f lb enc k lt g T cs n W) :
    Calls Tryz.prog 241 #[LS f lb sf sb, .int .i64 n] W fun e w' => e = .returned (.tuple #[]) ∧ ∃ e, SU enc k g T cs W e w' ∧ PermIn 0 n d e ∧ SortedIn lt 0 n e := by
  have hB : SU enc k g T cs W d (W.alloc (LSo f lb sf sb)) := h0.more (Up.al _ (Up.rfl' W))
  have HL : Hid (∀ d' W', SU enc k g T cs (W.alloc (LSo f lb sf sb)) d' W' → LessU f lb enc k lt g T cs n W') := fun d' W' h' => hL.on (hB.trans h')
  have HB : Hid (SU enc k g T cs W d (W.alloc (LSo f lb sf sb))) := hB
  have hI := fun (d' : Array α) (W' : World) (hd' : d'.size = n) (h' : SU enc k g T cs W' d' W') (hL' : LessU f lb enc k lt g T cs n W') (a b : Nat) (hab : a ≤ b) (hb : b ≤ n) => insSort_w hk f lb sf sb n hn hswap eg hd' h' hL' a b hab hb
  have hM := fun (d' : Array α) (W' : World) (hd' : d'.size = n) (h' : SU enc k g T cs W' d' W') (hL' : LessU f lb enc k lt g T cs n W') (a m b : Nat) => symM_w hk f lb sf sb n hn hswap hO eg (b - a) d' W' hd' h' hL' a m b (Nat.le_refl _)
  have HI : Hid _ := hI
  have HM : Hid _ := hM
  have hg := h0.lt
  clear h0 hL hI hM
  go_enter Tryz.func241, Tryz.ntmps241
  go_wp2
  go_loopw [5, 6] (fun v5 v6 wr => ∃ (q : Nat) (dk : Array α), v5 = .int .i64 ((q : Int) * 20) ∧ v6 = .int .i64 ((q : Int) * 20 + 20) ∧ q * 20 ≤ n ∧ PermIn 0 n d dk ∧ BI lt q dk ∧ SU enc k g T cs (W.alloc (LSo f lb sf sb)) dk wr) (fun v5 v6 _ => n - (intOf v5).toNat)
  case atStart => exact ⟨0, d, by go_num, by go_num, by omega, permIn_refl _ _ _, fun p hp => by omega, hB.self⟩
  case round =>
    obtain ⟨q, dk, rfl, rfl, hq, hP, hBI, hS⟩ := hrel
    have c0 : wr.cell? ⟨W.heap.size, 0, none⟩ = some (.func (.func f) #[] lb) := by rw [hS.oth (by simp) (by omega)]; simp
    have c1 : wr.cell? ⟨W.heap.size, 1, none⟩ = some (.func (.func sf) #[] sb) := by rw [hS.oth (by simp) (by omega)]; simp
    have hds : dk.size = n := hP.1.trans hd
    have HS : Hid (SU enc k g T cs (W.alloc (LSo f lb sf sb)) dk wr) := hS
    have HP : Hid (PermIn 0 n d dk) := hP
    have HBI : Hid (BI lt q dk) := hBI
    clear hS hB hP hBI
    by_cases hle : q * 20 + 20 ≤ n
    · have hlez : (q : Int) * 20 + 20 ≤ (n : Int) := by omega
      have hc := HI.out dk wr hds HS.out.self (HL.out dk wr HS.out) (q * 20) (q * 20 + 20) (by omega) hle
      rw [show ((q * 20 : Nat) : Int) = (q : Int) * 20 by omega, show ((q * 20 + 20 : Nat) : Int) = (q : Int) * 20 + 20 by omega] at hc
      go_wp2_with (go_at_call 268; refine hc.mono ?_; rintro e w' ⟨rfl, hE⟩)
      have x := insertionSort_holds hO dk (q * 20) (q * 20 + 20) (by omega) (by omega)
      exact ⟨⟨q + 1, _, by congr 1 <;> omega, by congr 1 <;> omega, by omega, permIn_trans _ _ _ _ _ HP.out (permIn_mono _ _ _ _ _ _ (by omega) (by omega) (by omega) x.1), HBI.out.step x.1 x.2, HS.out.trans hE⟩, by simp [intOf]; omega⟩
    · have hlez : ¬ (q : Int) * 20 + 20 ≤ (n : Int) := by omega
      have hc := HI.out dk wr hds HS.out.self (HL.out dk wr HS.out) (q * 20) n hq (Nat.le_refl _)
      rw [show ((q * 20 : Nat) : Int) = (q : Int) * 20 by omega] at hc
      go_wp2_with (go_at_call 268; refine hc.mono ?_; rintro e w' ⟨rfl, hE⟩)
      have x := insertionSort_holds hO dk (q * 20) n (by omega) (by omega)
      have hR0 := HBI.out.fin (by omega) x.1 x.2
      have hP0 := permIn_trans _ _ _ _ _ HP.out (permIn_mono _ _ _ _ _ _ (by omega) (Nat.le_refl _) (by omega) x.1)
      have hS0 := HS.out.trans hE
      clear x c0 c1
      go_loopw [4, 5, 6, 7] (fun v4 v5 v6 v7 wr => ∃ (bs : Nat) (dk : Array α), v4 = .int .i64 (bs : Int) ∧ 1 ≤ bs ∧ bs ≤ 2 * n + 20 ∧ PermIn 0 n d dk ∧ Runs lt bs n dk ∧ SU enc k g T cs (W.alloc (LSo f lb sf sb)) dk wr) (fun v4 _ _ _ _ => n - (intOf v4).toNat)
      case atStart => exact ⟨20, _, by go_num, by omega, by omega, hP0, hR0, hS0⟩
      case round =>
        obtain ⟨bs, dk2, rfl, hb1, hb2, hP2, hR2, hS2⟩ := hrel
        have HP2 : Hid (PermIn 0 n d dk2) := hP2
        have HR2 : Hid (Runs lt bs n dk2) := hR2
        have HS2 : Hid (SU enc k g T cs (W.alloc (LSo f lb sf sb)) dk2 wr) := hS2
        clear hP2 hR2 hS2 hP0 hR0 hS0 hE hlez hle hc HS HP HBI hq
        by_cases hlt : bs < n
        · go_wp2
          go_loopw [5, 6] (fun v5 v6 wr => ∃ (A : Nat) (dk : Array α), v5 = .int .i64 (A : Int) ∧ v6 = .int .i64 ((A : Int) + 2 * (bs : Int)) ∧ A ≤ n ∧ PermIn 0 n d dk ∧ (∃ q, A = q * (2 * bs) ∧ MI lt bs n q dk) ∧ SU enc k g T cs (W.alloc (LSo f lb sf sb)) dk wr) (fun v5 v6 _ => n - (intOf v5).toNat)
          case atStart => exact ⟨0, dk2, by go_num, by go_num, by omega, HP2.out, ⟨0, by omega, MI.zero HR2.out⟩, HS2.out⟩
          case round =>
            obtain ⟨A, dk3, rfl, rfl, hA, hP3, hM3, hS3⟩ := hrel
            have c0 : wr.cell? ⟨W.heap.size, 0, none⟩ = some (.func (.func f) #[] lb) := by rw [hS3.oth (by simp) (by omega)]; simp
            have c1 : wr.cell? ⟨W.heap.size, 1, none⟩ = some (.func (.func sf) #[] sb) := by rw [hS3.oth (by simp) (by omega)]; simp
            have hds3 : dk3.size = n := hP3.1.trans hd
            have HP3 : Hid (PermIn 0 n d dk3) := hP3
            have HM3 : Hid (∃ q, A = q * (2 * bs) ∧ MI lt bs n q dk3) := hM3
            have HS3 : Hid (SU enc k g T cs (W.alloc (LSo f lb sf sb)) dk3 wr) := hS3
            clear hP3 hM3 hS3
            by_cases hle : A + 2 * bs ≤ n
            · have hlez : (A : Int) + 2 * (bs : Int) ≤ (n : Int) := by omega
              have hc := HM.out dk3 wr hds3 HS3.out.self (HL.out dk3 wr HS3.out) A (A + bs) (A + 2 * bs) (by omega) (by omega) hle (by obtain ⟨q, h1, h2⟩ := HM3.out; exact h2.left h1 (by omega)) (by obtain ⟨q, h1, h2⟩ := HM3.out; have := h2.right h1; rwa [Nat.min_eq_left hle] at this)
              rw [show ((A + bs : Nat) : Int) = (A : Int) + (bs : Int) by omega, show ((A + 2 * bs : Nat) : Int) = (A : Int) + 2 * (bs : Int) by omega] at hc
              go_wp2_with (go_at_call 269; refine hc.mono ?_; rintro e w' ⟨rfl, hE⟩)
              obtain ⟨e, hE1, hE2, hE3⟩ := hE
              exact ⟨⟨A + 2 * bs, e, by congr 1 <;> omega, by congr 1 <;> omega, hle, permIn_trans _ _ _ _ _ HP3.out (permIn_mono _ _ _ _ _ _ (by omega) hle (by omega) hE2), (by obtain ⟨q, h1, h2⟩ := HM3.out; exact ⟨q + 1, by rw [Nat.add_mul, Nat.one_mul, ← h1], h2.step h1 hE2 hE3⟩), HS3.out.trans hE1⟩, by simp [intOf]; omega⟩
            · have hlez : ¬ (A : Int) + 2 * (bs : Int) ≤ (n : Int) := by omega
              by_cases hm : A + bs < n
              · have hmz : (A : Int) + (bs : Int) < (n : Int) := by omega
                have hc := HM.out dk3 wr hds3 HS3.out.self (HL.out dk3 wr HS3.out) A (A + bs) n (by omega) (by omega) (Nat.le_refl _) (by obtain ⟨q, h1, h2⟩ := HM3.out; exact h2.left h1 (by omega)) (by obtain ⟨q, h1, h2⟩ := HM3.out; have := h2.right h1; rwa [Nat.min_eq_right (by omega)] at this)
                rw [show ((A + bs : Nat) : Int) = (A : Int) + (bs : Int) by omega] at hc
                go_wp2_with (go_at_call 269; refine hc.mono ?_; rintro e w' ⟨rfl, hE⟩)
                obtain ⟨e, hE1, hE2, hE3⟩ := hE
                exact ⟨⟨2 * bs, e, by congr 1 <;> omega, by omega, by omega, permIn_trans _ _ _ _ _ HP3.out (permIn_mono _ _ _ _ _ _ (by omega) (Nat.le_refl _) (by omega) hE2), (by obtain ⟨q, h1, h2⟩ := HM3.out; exact h2.fin h1 (by omega) hE2 hE3), HS3.out.trans hE1⟩, by simp [intOf]; omega⟩
              · have hmz : ¬ (A : Int) + (bs : Int) < (n : Int) := by omega
                go_wp2
                exact ⟨⟨2 * bs, dk3, by congr 1 <;> omega, by omega, by omega, HP3.out, (by obtain ⟨q, h1, h2⟩ := HM3.out; exact h2.fin h1 (by omega) (permIn_refl _ _ _) (h2.last h1 (by omega))), HS3.out⟩, by simp [intOf]; omega⟩
        · have hge : ¬ (bs : Int) < (n : Int) := by omega
          go_wp2
          go_end0
          refine ⟨rfl, dk2, HB.out.trans HS2.out, HP2.out, ?_⟩
          have := HR2.out 0
          rw [Nat.zero_mul, Nat.zero_add, Nat.min_eq_right (by omega)] at this
          exact this
end
end Go.Proofs.YtmcdjilbkmhfoaaGreat
namespace Go.Proofs.YtmcdjilbkmhfoaaGreat
set_option maxRecDepth 10000
open Go.RowKit
set_option linter.unusedVariables false
set_option linter.unusedSimpArgs false
class FlatAs {α β : Type} [Enc β] (c : α → List PV) (g : α → β) : Prop where
  len : ∀ x, (c x).length = Enc.k β
  at_ : ∀ x (j : Nat) (p : PV), (c x)[j]? = some p → ∃ u, (Enc.cells (g x))[j]? = some u ∧ p = .v u
theorem rd_flat {α β : Type} [Enc β] {c : α → List PV} (g : α → β) [hf : FlatAs c g] {w : World} {S : Nat → Prop} {xs : List α} {x : Value} (hsz : ∀ b, S b → b < w.heap.size) (h : RepC w S (.sl (xs.map c)) x) :
    ∃ A n, x = .slice A xs.length n ∧ xs.length ≤ n ∧ (xs ≠ [] → n ≤ maxLen) ∧ Rd w w.heap.size A (xs.map g) := by
  generalize hq : PV.sl (xs.map c) = q at h
  cases h with
  | v x h => cases hq
  | ud => cases hq
  | un => cases hq
  | rp => cases hq
  | fn => cases hq
  | nil A n =>
    have : xs = [] := by simpa using hq
    exact ⟨A, n, by rw [this]; rfl, by rw [this]; simp, fun h => absurd this h, by rw [this]; exact Rd.nil_⟩
  | sl es b off k n u hS hkp hnc hm hes hcc h1 hrr =>
    obtain rfl : xs.map c = es := by simpa using hq
    refine ⟨_, n, by simp, by simpa using hnc, fun _ => hm, fun hne => ⟨b, off, rfl, hsz b hS, fun t u' hu' => ?_⟩⟩
    have hne' : xs ≠ [] := fun e => hne (by rw [e]; rfl)
    have hpos : 0 < xs.length := List.length_pos_iff.2 hne'
    have hk1 : k = Enc.k β := ((hes 0 (c xs[0]) (by simp [hpos])).symm).trans (hf.len _)
    subst hk1
    have hkp' : 0 < Enc.k β := hkp
    have ht := (List.getElem?_eq_some_iff.1 hu').1
    rw [flat_len, List.length_map] at ht
    have hi : t / Enc.k β < xs.length := by rw [Nat.div_lt_iff_lt_mul hkp']; exact ht
    have hj := Nat.mod_lt t hkp'
    have e0 : t / Enc.k β * Enc.k β + t % Enc.k β = t := by rw [Nat.mul_comm]; exact Nat.div_add_mod t _
    have e1 : (xs.map c)[t / Enc.k β]? = some (c xs[t / Enc.k β]) := by simp [hi]
    have e2 : (c xs[t / Enc.k β])[t % Enc.k β]? = some ((c xs[t / Enc.k β])[t % Enc.k β]'(by rw [hf.len]; exact hj)) := List.getElem?_eq_getElem _
    obtain ⟨v, hv, hp⟩ := hf.at_ _ _ _ e2
    have hfl := flat_at (xs := xs.map g) (i := t / Enc.k β) (x := g xs[t / Enc.k β]) (by simp [hi]) hv
    rw [e0, hu'] at hfl
    obtain rfl := Option.some.inj hfl
    have hc := hcc _ _ _ _ e1 e2
    have hz := hrr _ _ _ _ e1 e2
    rw [hp] at hz
    have hz' : u (t / Enc.k β) (t % Enc.k β) = u' := by
      generalize u (t / Enc.k β) (t % Enc.k β) = z at hz
      cases hz with
      | v _ _ => rfl
    rw [hz'] at hc
    rw [← e0, ← Nat.add_assoc]
    exact hc
theorem arrV3 {vs : Array Value} {x0 x1 x2 : Value} (h : vs.size = 3) (h0 : vs[0]? = some x0) (h1 : vs[1]? = some x1) (h2 : vs[2]? = some x2) : vs = #[x0, x1, x2] := by
  apply Array.ext (by simp [h])
  intro i hi h3
  have a0 := (Array.getElem?_eq_some_iff.1 h0).2
  have a1 := (Array.getElem?_eq_some_iff.1 h1).2
  have a2 := (Array.getElem?_eq_some_iff.1 h2).2
  match i, hi with
  | 0, _ => simpa using a0
  | 1, _ => simpa using a1
  | 2, _ => simpa using a2
  | i + 3, hi => omega
theorem rep_v1 {w : World} {E : Env} {a x : Value} (h : Rep w E (.v a) x) : x = a := h.v_inv.1
instance : FlatAs cInt (id : Int → Int) := ⟨fun x => rfl, fun x j p h => by
  cases j with
  | zero => obtain rfl : vi x = p := by simpa using h
            exact ⟨_, rfl, rfl⟩
  | succ j => simp [cInt] at h⟩
end Go.Proofs.YtmcdjilbkmhfoaaGreat
namespace Go.Proofs.YtmcdjilbkmhfoaaGreat
set_option maxRecDepth 10000
open Go.RowKit
set_option linter.unusedVariables false
set_option maxHeartbeats 16000000
def m_impl_BookWay_1 (i : Int) (j : Int) (c0_ : List YBooking) : Option Bool :=
 (getI c0_ i).bind fun y1 =>
 (getI c0_ j).bind fun y2 =>
 (m_impl_compareBookings y1 y2).bind fun y3 =>
 some (decide (y3 < 0))
theorem ok_impl_BookWay_1 (i : Int) (j : Int) (c0_ : List YBooking) {r : Bool} (H : m_impl_BookWay_1 i j c0_ = some r) : CallM Tryz.prog 201 [vi i, vi j, .rp [.sl (c0_.map cBooking)]] [] (vb r) [] := by
  replace H := H0 H
  unfold m_impl_BookWay_1 at H
  refine callM_of Tryz.func201 rfl Tryz.ntmps201 Tryz.results201 fun Q hQ hQn => ?_
  exact wk2
instance (i : Int) (j : Int) (c0_ : List YBooking) : CT Tryz.prog (m_impl_BookWay_1 i j c0_) := ⟨201, [vi i, vi j, .rp [.sl (c0_.map cBooking)]], [], fun r => vb r, fun r => [], ok_impl_BookWay_1 i j c0_⟩
end Go.Proofs.YtmcdjilbkmhfoaaGreat
namespace Go.Proofs.YtmcdjilbkmhfoaaGreat
set_option maxRecDepth 10000
open Go.RowKit Go.Lib Go.Sort
set_option linter.unusedVariables false
set_option linter.unusedSimpArgs false
set_option maxRecDepth 100000
set_option maxHeartbeats 4000000
instance : Enc YBooking where
  cells x := [I x.thing, I x.trip.leg, I x.trip.day, I x.weight]
  k := 4
  len _ := rfl
  pos := by decide
  one := by simp [Value.oneCell', I]
instance : Enc YTrip where
  cells x := [I x.leg, I x.day]
  k := 2
  len _ := rfl
  pos := by decide
  one := by simp [Value.oneCell', I]
instance : FlatAs cBooking (id : YBooking → YBooking) := ⟨fun x => rfl, fun x j p h => by
  match j with
  | 0 => obtain rfl : _ = p := Option.some.inj h
         exact ⟨_, rfl, rfl⟩
  | 1 => obtain rfl : _ = p := Option.some.inj h
         exact ⟨_, rfl, rfl⟩
  | 2 => obtain rfl : _ = p := Option.some.inj h
         exact ⟨_, rfl, rfl⟩
  | 3 => obtain rfl : _ = p := Option.some.inj h
         exact ⟨_, rfl, rfl⟩
  | j + 4 => simp [cBooking] at h⟩
instance : FlatAs cTrip (id : YTrip → YTrip) := ⟨fun x => rfl, fun x j p h => by
  match j with
  | 0 => obtain rfl : _ = p := Option.some.inj h
         exact ⟨_, rfl, rfl⟩
  | 1 => obtain rfl : _ = p := Option.some.inj h
         exact ⟨_, rfl, rfl⟩
  | j + 2 => simp [cTrip] at h⟩
instance : Inhabited YBooking := ⟨⟨0, ⟨0, 0⟩, 0⟩⟩
theorem bef_iff (a b : YBooking) : befB a b = true ↔ a.trip.day < b.trip.day ∨ (a.trip.day = b.trip.day ∧ (a.trip.leg < b.trip.leg ∨ (a.trip.leg = b.trip.leg ∧ a.thing < b.thing))) := by
  unfold befB
  repeat' split
  all_goals simp only [decide_eq_true_eq]
  all_goals omega
theorem bef_not (a b : YBooking) : befB a b = false ↔ ¬ (a.trip.day < b.trip.day ∨ (a.trip.day = b.trip.day ∧ (a.trip.leg < b.trip.leg ∨ (a.trip.leg = b.trip.leg ∧ a.thing < b.thing)))) := by
  rw [← bef_iff]; simp
theorem swo_bef : SWO befB := ⟨fun x => (bef_not _ _).2 (by omega), fun x y z h1 h2 => (bef_iff _ _).2 (by have := (bef_iff _ _).1 h1; have := (bef_iff _ _).1 h2; omega), fun x y z h1 h2 => (bef_not _ _).2 (by have := (bef_not _ _).1 h1; have := (bef_not _ _).1 h2; omega)⟩
theorem own_no {b : Nat} : ¬ own0 (fun _ => none) b := by rintro ⟨l, B, h, _⟩; cases h
theorem CallM.valT {P : Program} {f : FuncId} {args : List PV} {val : Value} (h : CallM P f args [] (.v val) []) {w : World} (ht : Tab w (own0 fun _ => none)) {vs : Array Value} (hl : vs.size = args.length) (ha : ∀ (i : Nat) (p : PV), args[i]? = some p → ∃ x, vs[i]? = some x ∧ Rep w (E1 (fun b => b < w.heap.size) (fun _ => none) 0) p x) :
    Calls P f vs w fun e w' => e = .returned val ∧ Up w w' := by
  have hok : Ok w (own0 fun _ => none) (E1 (fun b => b < w.heap.size) (fun _ => none) 0) w [] :=
    ⟨UpO.refl _ _, fun b h => h, fun l B h => (by cases h), fun l l' B B' h => (by cases h), fun l h => absurd h (Nat.not_lt_zero l), fun l B h => (by cases h), fun l mb h => (by simp at h), fun l B h => (by cases h), ht⟩
  refine (h (fun b => b < w.heap.size) (fun _ => none) w vs hok hl ha).mono ?_
  rintro e w' ⟨v, E', rfl, hk, _, _, _, hr⟩
  obtain ⟨rfl, _⟩ := hr.v_inv
  exact ⟨rfl, hk.up.os, hk.up.tape, hk.up.output, hk.up.size, fun b hb => hk.up.block b hb own_no⟩
theorem tab_up {w w' : World} {O O' : Nat → Prop} (h : Tab w O) (hu : UpO O' w w') (hO : ∀ b, b < w.heap.size → O' b → O b) : Tab w' (own0 fun _ => none) := by
  obtain ⟨T, h1, h2⟩ := h
  exact ⟨T, fun b hb => ⟨Nat.lt_of_lt_of_le (h1 b hb).1 hu.size, own_no⟩, fun w'' hw'' => h2 w'' fun b hb => (hw'' b hb).trans (hu.block b (h1 b hb).1 fun h => (h1 b hb).2 (hO b (h1 b hb).1 h))⟩
theorem rd_repc {α β : Type} [Enc β] {c : α → List PV} (g : α → β) [hf : FlatAs c g] {w : World} {A : Option Addr} {n : Nat} {xs : List α} (h : Rd w w.heap.size A (xs.map g)) (hn : xs.length ≤ n) (hm : n ≤ maxLen) : RepC w (fun b => b < w.heap.size) (.sl (xs.map c)) (.slice A xs.length n) := by
  by_cases h0 : xs = []
  · subst h0; exact .nil _ _
  obtain ⟨b, off, rfl, hb, hc⟩ := h (by simpa using h0)
  have hlen : (xs.map c).length = xs.length := by simp
  have key : ∀ (i : Nat) (cs : List PV) (j : Nat) (p : PV), (xs.map c)[i]? = some cs → cs[j]? = some p → ∃ u, w.cell? ⟨b, off + i * Enc.k β + j, none⟩ = some u ∧ u.oneCell' = true ∧ p = .v u := by
    intro i cs j p hi hj
    rw [List.getElem?_map] at hi
    obtain ⟨x, hx, rfl⟩ := Option.map_eq_some_iff.1 hi
    obtain ⟨u, hu, hp⟩ := hf.at_ x j p hj
    have hfl := flat_at (xs := xs.map g) (i := i) (x := g x) (by rw [List.getElem?_map, hx]; rfl) hu
    exact ⟨u, by rw [Nat.add_assoc]; exact hc _ u hfl, Enc.one _ u (List.mem_of_getElem? hu), hp⟩
  rw [← hlen]
  exact .sl _ b off (Enc.k β) n (fun i j => (w.cell? ⟨b, off + i * Enc.k β + j, none⟩).getD .nilIface) hb Enc.pos (by rw [hlen]; exact hn) hm
    (fun i cs hi => by
      rw [List.getElem?_map] at hi
      obtain ⟨x, _, rfl⟩ := Option.map_eq_some_iff.1 hi
      exact hf.len x)
    (fun i cs j p hi hj => by obtain ⟨u, x1, _⟩ := key i cs j p hi hj; rw [x1]; rfl)
    (fun i cs j p hi hj => by obtain ⟨u, x1, x2, _⟩ := key i cs j p hi hj; rw [x1]; exact x2)
    (fun i cs j p hi hj => by obtain ⟨u, x1, x2, rfl⟩ := key i cs j p hi hj; rw [x1]; exact .v u x2)
section
variable {β : Type} [Enc β] [Inhabited β]
theorem flatK_flat (d : Array β) : (flatK Enc.cells (Enc.k β) d).toList = flat d.toList := by
  apply List.ext_getElem?
  intro t
  have hk : 0 < Enc.k β := Enc.pos
  rcases Nat.lt_or_ge t (d.size * Enc.k β) with h | h
  · have h1 : t < (flatK Enc.cells (Enc.k β) d).size := by rw [size_flatK]; exact h
    have hi : t / Enc.k β < d.size := by rw [Nat.div_lt_iff_lt_mul hk]; exact h
    have hj := Nat.mod_lt t hk
    have e0 : t / Enc.k β * Enc.k β + t % Enc.k β = t := by rw [Nat.mul_comm]; exact Nat.div_add_mod t _
    have hc : (Enc.cells d[t / Enc.k β]!)[t % Enc.k β]? = some ((Enc.cells d[t / Enc.k β]!)[t % Enc.k β]'(by rw [Enc.len]; exact hj)) := List.getElem?_eq_getElem _
    have hf := flat_at (xs := d.toList) (i := t / Enc.k β) (x := d[t / Enc.k β]!) (by rw [Array.getElem?_toList, getElem!_pos d _ hi]; exact Array.getElem?_eq_getElem hi) hc
    rw [e0] at hf
    rw [hf, Array.getElem?_toList, Array.getElem?_eq_getElem h1, ← getElem!_pos, get_flatK _ _ _ _ h]
    rw [getElem!_pos _ _ (by rw [Enc.len]; exact hj)]
  · rw [List.getElem?_eq_none (by rw [Array.length_toList, size_flatK]; exact h), List.getElem?_eq_none (by rw [flat_len, Array.length_toList]; exact h)]
theorem own_su {w : World} {B E : Nat} {v : Value} {xs : List β} (h : Own w B E v xs) (h2 : 0 < xs.length) :
    ∃ g c, v = .slice (some ⟨g, 0, none⟩) xs.length c ∧ B ≤ g ∧ xs.length ≤ c ∧ c ≤ maxLen ∧ SU (Enc.cells (α := β)) (Enc.k β) g E (c * Enc.k β) w xs.toArray w := by
  rcases h.2 with ⟨_, h0⟩ | ⟨g, cap, cur, hv, hB, hg, hnc, hcm, hcs, ht⟩
  · omega
  refine ⟨g, cap, hv, hB, hnc, hcm, UpO.refl _ _, ?_, cur, hg, hcs⟩
  intro t htl
  rw [size_flatK] at htl
  have hfl : (flatK (Enc.cells (α := β)) (Enc.k β) xs.toArray).toList = flat xs := by rw [flatK_flat]
  refine ⟨?_, by simp [World.frozen?, hg]⟩
  rw [Nat.zero_add, cell_of_row w g t cur E (0, 0) hg]
  have h1 : t < (flatK (Enc.cells (α := β)) (Enc.k β) xs.toArray).size := by rw [size_flatK]; exact htl
  have h3 : (flat xs)[t]? = some (id (flatK (Enc.cells (α := β)) (Enc.k β) xs.toArray)[t]!) := by
    rw [← hfl, Array.getElem?_toList, getElem!_pos (flatK (Enc.cells (α := β)) (Enc.k β) xs.toArray) t h1]
    exact Array.getElem?_eq_getElem h1
  rw [← ht, List.getElem?_take] at h3
  split at h3
  · rw [← Array.getElem?_toList]; exact h3
  · cases h3
theorem su_own {w0 W : World} {B E g c : Nat} {d : Array β} (h : SU (Enc.cells (α := β)) (Enc.k β) g E (c * Enc.k β) w0 d W) (hB : B ≤ g) (hn : d.size ≤ c) (hm : c ≤ maxLen) : Own W B E (.slice (some ⟨g, 0, none⟩) d.size c) d.toList := by
  obtain ⟨cur, hg, hcs⟩ := h.row
  refine ⟨by rw [flat_len], .inr ⟨g, c, cur, by rw [Array.length_toList], hB, hg, by rw [Array.length_toList]; exact hn, hm, hcs, ?_⟩⟩
  rw [← flatK_flat]
  have hle : d.size * Enc.k β ≤ c * Enc.k β := Nat.mul_le_mul_right _ hn
  apply List.ext_getElem?
  intro t
  rw [List.getElem?_take, Array.length_toList]
  split
  · rename_i ht
    have h1 : t < (flatK (Enc.cells (α := β)) (Enc.k β) d).size := by rw [size_flatK]; exact ht
    have hh := (h.hold t h1).1
    rw [Nat.zero_add, cell_of_row W g t cur E (0, 0) hg, getElem!_pos (flatK (Enc.cells (α := β)) (Enc.k β) d) t h1] at hh
    rw [Array.getElem?_toList, Array.getElem?_toList, hh]
    exact (Array.getElem?_eq_getElem h1).symm
  · rename_i ht
    rw [List.getElem?_eq_none (by rw [Array.length_toList, size_flatK]; omega)]
end
theorem rep_v {w : World} {E : Env} (x : Value) (h : x.oneCell' = true) : Rep w E (.v x) x := .c (.v x h)
theorem less_bk {g c n Bx : Nat} {w0 : World} {O : Nat → Prop} (hx : w0.cell? ⟨Bx, 0, none⟩ = some (.slice (some ⟨g, 0, none⟩) n c)) (hBx : Bx < w0.heap.size) (hne : Bx ≠ g) (hnc : n ≤ c) (hm : c ≤ maxLen) (ht : Tab w0 O) (hO : O g) :
    LessU 201 #[.pointer (some ⟨Bx, 0, none⟩)] (Enc.cells (α := YBooking)) 4 befB g 135 (c * 4) n w0 := by
  intro d W hS hd i j hi hj
  have hn : d.toList.length = n := by rw [Array.length_toList, hd]
  have gi : getI d.toList (i : Int) = some d[i]! := by rw [getI_nat, Array.getElem?_toList, getElem!_pos d i (by omega)]; exact Array.getElem?_eq_getElem _
  have gj : getI d.toList (j : Int) = some d[j]! := by rw [getI_nat, Array.getElem?_toList, getElem!_pos d j (by omega)]; exact Array.getElem?_eq_getElem _
  obtain ⟨v, hv, hvb⟩ := compare_v d[i]! d[j]!
  have H : m_impl_BookWay_1 (i : Int) (j : Int) d.toList = some (befB d[i]! d[j]!) := by
    unfold m_impl_BookWay_1
    rw [gi, Option.bind_some, gj, Option.bind_some, hv, Option.bind_some]
    cases hb : befB d[i]! d[j]! with
    | true => rw [hb] at hvb; have := of_decide_eq_false hvb; rw [decide_eq_true (by omega)]
    | false => rw [hb] at hvb; have := of_decide_eq_true hvb; rw [decide_eq_false (by omega)]
  have hC := ok_impl_BookWay_1 (i : Int) (j : Int) d.toList H
  have hcell : W.cell? ⟨Bx, 0, none⟩ = some (.slice (some ⟨g, 0, none⟩) n c) := (hS.oth hBx hne).trans hx
  have hrd : Rd W W.heap.size (some ⟨g, 0, none⟩) (d.toList.map id) := by
    have := (su_own (B := g) hS (Nat.le_refl _) (by omega) hm).rd
    rw [List.map_id]
    exact this
  have hrs := rd_repc (c := cBooking) (id : YBooking → YBooking) hrd (n := c) (by omega) hm
  rw [hn] at hrs
  refine (CallM.valT hC (w := W) (tab_up ht hS.up fun b _ h => h ▸ hO) rfl fun idx p hp => ?_).mono ?_
  · match idx with
    | 0 => obtain rfl : _ = p := Option.some.inj hp
           exact ⟨_, rfl, rep_v _ rfl⟩
    | 1 => obtain rfl : _ = p := Option.some.inj hp
           exact ⟨_, rfl, rep_v _ rfl⟩
    | 2 => obtain rfl : _ = p := Option.some.inj hp
           refine ⟨_, rfl, .c (.rp _ Bx 0 (fun _ => .slice (some ⟨g, 0, none⟩) n c) (Nat.lt_of_lt_of_le hBx hS.up.size) (fun j p hp => ?_) (fun j p hp => rfl) fun j p hp => ?_)⟩
           · match j with
             | 0 => exact hcell
             | j + 1 => simp at hp
           · match j with
             | 0 => obtain rfl : _ = p := Option.some.inj hp
                    exact hrs
             | j + 1 => simp at hp
    | idx + 3 => simp at hp
  · rintro e w' ⟨rfl, hu⟩
    exact ⟨rfl, hu⟩
end Go.Proofs.YtmcdjilbkmhfoaaGreat
namespace Go.Proofs.YtmcdjilbkmhfoaaGreat
set_option maxRecDepth 10000
open Go.RowKit Go.Lib Go.Sort
set_option linter.unusedVariables false
set_option linter.unusedSimpArgs false
set_option maxRecDepth 100000
set_option maxHeartbeats 4000000
noncomputable def bkT : TypeInfo := (Tryz.prog.info? 37).get (by kernel_rfl)
noncomputable def bkE : TypeInfo := (Tryz.prog.info? 135).get (by kernel_rfl)
theorem bkK (n : Nat) (h2 : 2 ≤ n) : Lib.swapperK n bkE 25 = 9 := by
  have a : bkE.hasPointers = false := by kernel_rfl
  have b : bkE.bytes = 32 := by kernel_rfl
  have c : (n == 0) = false := by simp; omega
  have d : (n == 1) = false := by simp; omega
  simp [Lib.swapperK, a, b, c, d]
theorem grow_up (w : World) (os : Array Obj) : Up w (grow w os) := ⟨rfl, rfl, rfl, by rw [size_grow]; omega, fun b hb => heap_grow_old w os hb⟩
theorem sstable {B Bx : Nat} {v : Value} {xs : List YBooking} {w : World} {O : Nat → Prop} (ho : Own w B 135 v xs) (hx : w.heap[Bx]? = some (.cells #[v] 37 (0, 0))) (hn : xs.length ≤ 1048576) (ht : Tab w O) (hO : ∀ b, B ≤ b → O b) :
    Calls Tryz.prog 200 #[.iface 37 v, .func (.func 201) #[] #[.pointer (some ⟨Bx, 0, none⟩)]] w fun e w' => e = .returned (.tuple #[]) ∧ ∃ ys, ys.Perm xs ∧ ys.Pairwise (fun a b => befB b a = false) ∧ Own w' B 135 v ys ∧ UpO (fun b => B ≤ b ∧ b ≠ Bx) w w' := by
  by_cases h2 : 2 ≤ xs.length
  case neg =>
    obtain ⟨A, c, rfl, _, _⟩ := ho.form
    have hR := Tryz.laysGt8
    have key : ∀ f, Tryz.prog.funcs.findIdx? (·.name == "internal/reflectlite" ++ ".Swapper$" ++ toString (Lib.swapperK xs.length bkE 25)) = some f → Calls Tryz.prog 200 #[.iface 37 (.slice A xs.length c), .func (.func 201) #[] #[.pointer (some ⟨Bx, 0, none⟩)]] w fun e w' => e = .returned (.tuple #[]) ∧ ∃ os, w' = grow w os := fun f hf =>
      Any.sort_SliceStable_tiny Tryz.laysGt8 37 135 bkT bkE (by kernel_rfl) (by kernel_rfl) (by kernel_rfl) (by kernel_rfl) 25 (fun _ => by kernel_rfl) A xs.length c (by omega) f hf _ _ _ w
    have key2 : ∃ f, Tryz.prog.funcs.findIdx? (·.name == "internal/reflectlite" ++ ".Swapper$" ++ toString (Lib.swapperK xs.length bkE 25)) = some f := by
      rcases Nat.lt_or_ge 0 xs.length with h | h
      · rw [show xs.length = 1 by omega]
        exact ⟨260, by kernel_rfl⟩
      · rw [show xs.length = 0 by omega]
        exact ⟨259, by kernel_rfl⟩
    obtain ⟨f, hf⟩ := key2
    refine (key f hf).mono ?_
    rintro e w' ⟨rfl, os, rfl⟩
    have hu := grow_up w os
    refine ⟨rfl, xs, List.Perm.refl _, ?_, ho.up hu, ⟨hu.os, hu.tape, hu.output, hu.size, fun b hb _ => hu.block b hb⟩⟩
    match xs, h2 with
    | [], _ => exact .nil
    | [x], _ => simp
    | x :: y :: l, h2 => simp at h2
  case pos =>
    obtain ⟨g, c, rfl, hB, hnc, hcm, hS⟩ := own_su ho (by omega)
    have hrow := hS.row
    have hne : Bx ≠ g := by
      rintro rfl
      obtain ⟨cells, h1, _⟩ := hrow
      rw [hx] at h1
      simp at h1
    have hBx : Bx < w.heap.size := (Array.getElem?_eq_some_iff.1 hx).1
    have hcell : w.cell? ⟨Bx, 0, none⟩ = some (.slice (some ⟨g, 0, none⟩) xs.length c) := by rw [cell_of_row w Bx 0 _ _ (0, 0) hx]; rfl
    have hlen : xs.length < 1152921504606846976 := by omega
    have hB' : sliceBound Tryz.prog 135 bkE 25 (some ⟨g, 0, none⟩) xs.length c = #[.slice (some ⟨g, 0, none⟩) xs.length c, typeHandle Tryz.prog 135] := by
      unfold sliceBound; rw [if_neg (swapperK_gt _ _ _ h2)]
    have hsw : SwapSwapsK Tryz.prog 267 #[.slice (some ⟨g, 0, none⟩) xs.length c, typeHandle Tryz.prog 135] (Enc.cells (α := YBooking)) 4 g 0 xs.length :=
      swapSwapsK_of_literal false 267 (fun args W => run_callFunc_extern Tryz.func267 (by kernel_rfl) (by kernel_rfl) (by kernel_rfl) (e := Extern.ReflectliteSwapper.swap false) (by kernel_rfl) args W) 135 bkE (by kernel_rfl) (Enc.cells (α := YBooking)) 4 (fun _ => rfl) (by kernel_rfl) (fun _ => by kernel_rfl) Enc.one g 0 xs.length c
    have hless := less_bk (n := xs.length) hcell hBx hne hnc hcm ht (hO g hB)
    refine Any.sort_SliceStable_of_stable Tryz.laysGt8 37 135 bkT bkE (by kernel_rfl) (by kernel_rfl) (by kernel_rfl) (by kernel_rfl) 25 (fun _ => by kernel_rfl) (some ⟨g, 0, none⟩) xs.length c (by omega) 267 (by rw [bkK _ h2]; kernel_rfl) (.func 201) #[] #[.pointer (some ⟨Bx, 0, none⟩)] w (fun w' => ∃ ys, ys.Perm xs ∧ ys.Pairwise (fun a b => befB b a = false) ∧ Own w' B 135 (.slice (some ⟨g, 0, none⟩) xs.length c) ys ∧ UpO (fun b => B ≤ b ∧ b ≠ Bx) w w') ?_
    rw [hB']
    have hu : Up w (stableWorld Tryz.prog Tryz.laysGt8_ren 37 (some ⟨g, 0, none⟩) xs.length c w) := by unfold stableWorld; exact Up.al _ (Up.al _ (Up.rfl' w))
    generalize stableWorld Tryz.prog Tryz.laysGt8_ren 37 (some ⟨g, 0, none⟩) xs.length c w = w1 at hu ⊢
    have hS1 := hS.more hu
    have hst := stable_w (enc := Enc.cells (α := YBooking)) (k := 4) (fun _ => rfl) 201 #[.pointer (some ⟨Bx, 0, none⟩)] 267 #[.slice (some ⟨g, 0, none⟩) xs.length c, typeHandle Tryz.prog 135] xs.length hlen hsw swo_bef (enters_of Tryz.func201 (by kernel_rfl) rfl) (d := xs.toArray) (by simp) hS1.self (hless.on hS1)
    refine hst.mono ?_
    rintro e w' ⟨rfl, e, hE1, hE2, hE3⟩
    have hE := hS1.trans hE1
    have hsz : e.size = xs.length := by rw [hE2.1]; simp
    have hown := su_own (B := B) (c := c) hE hB (by omega) hcm
    rw [hsz] at hown
    refine ⟨rfl, e.toList, ?_, ?_, hown, ⟨hE.up.os, hE.up.tape, hE.up.output, hE.up.size, fun b hb hn => hE.up.block b hb fun h => hn ⟨h ▸ hB, fun h' => hne (h' ▸ h.symm ▸ rfl)⟩⟩⟩
    · have hp := hE2.2.2
      rw [← hsz] at hp
      rw [Array.extract_size] at hp
      rw [hsz] at hp
      have h3 : xs.toArray.extract 0 xs.length = xs.toArray := by simp
      rw [h3] at hp
      simpa using hp
    · rw [List.pairwise_iff_getElem]
      intro i j hi hj hij
      have := hE3 i j (by omega) hij (by rw [Array.length_toList] at hj; omega)
      rw [getElem!_pos e j (by rw [Array.length_toList] at hj; exact hj), getElem!_pos e i (by rw [Array.length_toList] at hi; exact hi)] at this
      simpa using this
end Go.Proofs.YtmcdjilbkmhfoaaGreat
namespace Go.Proofs.YtmcdjilbkmhfoaaGreat
set_option maxRecDepth 10000
open Go.RowKit
set_option linter.unusedVariables false
set_option linter.unusedSimpArgs false
set_option linter.unusedSectionVars false
abbrev leB (a b : YBooking) : Prop := befB b a = false
theorem befB_asym {a b : YBooking} (h : befB a b = true) : befB b a = false := Go.Sort.SWO.asymmA swo_bef h
theorem add_srt {l : List YBooking} (hl : l.length ≤ 1048575) (b : YBooking) (hs : l.Pairwise leB) : Tot (m_spec_l6Add l b) fun r => r.length = l.length + 1 ∧ r.Perm (l ++ [b]) ∧ r.Pairwise leB := by
  unfold m_spec_l6Add
  refine Tot.bind (P := fun o : Int => ∃ k : Nat, o = (k : Int) ∧ k ≤ l.length ∧ (∀ i (h : i < l.length), i < k → befB l[i] b = true) ∧ (∀ h : k < l.length, befB l[k] b = false)) ?_ fun o ho => ?_
  · refine Tot.loop (fun k s => ∃ i : Nat, s = (i : Int) ∧ i + k = l.length ∧ ∀ j (h : j < l.length), j < i → befB l[j] b = true) (fun k s hs => ?_) NN l.length 0 ⟨0, rfl, by omega, fun j _ h => by omega⟩ (by unfold NN; omega)
    obtain ⟨i, rfl, hk, hb⟩ := hs
    unfold m_spec_l6Add_b0
    refine Tot.cond (fun hd => ?_) fun hd => Tot.ret ⟨i, rfl, by omega, fun j h h' => hb j h h', fun h => by have := of_decide_eq_false hd; omega⟩
    have hlt := of_decide_eq_true hd
    have hw : w64 ((i : Int) + 1) = ((i + 1 : Nat) : Int) := by rw [w64_in (by omega)]; omega
    have hil : i < l.length := by omega
    have hy : getI l (i : Int) = some l[i] := by rw [getI_nat]; exact List.getElem?_eq_getElem hil
    rw [hy, Option.bind_some, before_v, Option.bind_some]
    refine Tot.cond (fun h1 => Tot.ret ⟨k - 1, by omega, i + 1, hw, by omega, fun j h h' => ?_⟩) fun h1 => Tot.ret ⟨i, rfl, by omega, fun j h h' => hb j h h', fun _ => h1⟩
    by_cases hji : j = i
    · subst hji; exact h1
    · exact hb j h (by omega)
  · obtain ⟨k, rfl, hk, hbef, hnot⟩ := ho
    have e1 : subL l 0 (k : Int) = l.take k := by unfold subL; simp
    have e2 : subL l (k : Int) (l.length : Int) = l.drop k := by
      unfold subL
      simp only [Int.toNat_natCast]
      rw [List.take_of_length_le (by simp)]
    rw [e1, e2]
    refine Tot.chk (by unfold slOk; exact decide_eq_true (by omega)) ?_
    rw [copyBook_s (by simp only [List.length_take]; omega), Option.bind_some]
    refine Tot.chk (app_fit (by simp only [List.length_cons, List.length_nil, List.length_take]; omega) (by omega)) (Tot.chk (by unfold slOk; exact decide_eq_true (by omega)) (Tot.chk (app_fit (by simp only [List.length_append, List.length_cons, List.length_nil, List.length_take, List.length_drop]; omega) (by omega)) (Tot.ret ⟨?_, ?_, ?_⟩)))
    · simp only [List.length_append, List.length_cons, List.length_nil, List.length_take, List.length_drop]; omega
    · have h1 : (l.take k ++ [b] ++ l.drop k).Perm (l.take k ++ (l.drop k ++ [b])) := by
        rw [List.append_assoc]
        exact List.Perm.append_left _ List.perm_append_comm
      rw [← List.append_assoc, List.take_append_drop] at h1
      exact h1
    · have hs1 := List.Pairwise.sublist (List.take_sublist k l) hs
      have hs2 := List.Pairwise.sublist (List.drop_sublist k l) hs
      have hgt : ∀ y ∈ l.drop k, befB y b = false := fun y hy => by
        obtain ⟨j, hj, rfl⟩ := List.getElem_of_mem hy
        rw [List.length_drop] at hj
        rw [List.getElem_drop]
        have h0 := hnot (by omega)
        by_cases hj0 : j = 0
        · subst hj0; exact h0
        · have := List.pairwise_iff_getElem.1 hs k (k + j) (by omega) (by omega) (by omega)
          exact swo_bef.ntrans _ _ _ this h0
      have hlt : ∀ x ∈ l.take k, befB x b = true := fun x hx => by
        obtain ⟨j, hj, rfl⟩ := List.getElem_of_mem hx
        rw [List.length_take] at hj
        rw [List.getElem_take]
        exact hbef j (by omega) (by omega)
      rw [List.append_assoc, List.pairwise_append]
      refine ⟨hs1, ?_, fun x hx y hy => ?_⟩
      · rw [List.singleton_append, List.pairwise_cons]
        exact ⟨fun y hy => hgt y hy, hs2⟩
      · rw [List.singleton_append, List.mem_cons] at hy
        rcases hy with rfl | hy
        · exact befB_asym (hlt x hx)
        · exact swo_bef.ntrans _ _ _ (hgt y hy) (befB_asym (hlt x hx))
def newsB (thing weight : Int) (way : List YTrip) : List YBooking := way.map fun t => ⟨thing, t, weight⟩
theorem books_le {n : YNetwork} {l : List YBooking} (h : booksV n l = true) : l.Pairwise leB := List.pairwise_iff_getElem.2 fun i j hi hj hij => befB_asym (books_lt h j i hj hij)
theorem srt_uniq {n : YNetwork} {d e : List YBooking} (hp : d.Perm e) (hd : d.Pairwise leB) (he : e.Pairwise leB) (hb : booksV n d = true) : d = e := by
  refine List.Perm.eq_of_pairwise (le := leB) (fun a b ha hb' h1 h2 => ?_) hd he hp
  have hb2 := hp.mem_iff.2 hb'
  obtain ⟨i, hi, rfl⟩ := List.getElem_of_mem ha
  obtain ⟨j, hj, rfl⟩ := List.getElem_of_mem hb2
  rcases Nat.lt_trichotomy i j with h | h | h
  · have := books_lt hb j i hj h
    have h2' : befB d[i] d[j] = false := h2
    rw [this] at h2'; cases h2'
  · subst h; rfl
  · have := books_lt hb i j hi h
    have h1' : befB d[j] d[i] = false := h1
    rw [this] at h1'; cases h1'
theorem srt_books {n : YNetwork} {d e : List YBooking} (hp : d.Perm e) (hd : d.Pairwise leB) (he : e.Pairwise leB) : booksV n d = booksV n e := by
  cases h1 : booksV n d with
  | true => rw [← srt_uniq hp hd he h1, h1]
  | false =>
    cases h2 : booksV n e with
    | false => rfl
    | true => rw [srt_uniq hp.symm he hd h2, h1] at h2; cases h2
theorem book_spec {n : YNetwork} (hf : NetFit n) {l : List YBooking} (hl : l.length ≤ 1048000) (thing weight : Int) {way : List YTrip} {d : List YBooking} (hp : d.Perm (l ++ newsB thing weight way)) (hs : d.Pairwise leB) :
    m_spec_BookWay n l thing weight way = some (if booksV n l = true ∧ way.length ≤ 20 ∧ booksV n d = true then (d, true) else (l, false)) := by
  unfold m_spec_BookWay
  rw [copyBook_s (by omega), Option.bind_some, specBooks_v hf (by omega), Option.bind_some]
  by_cases hb : booksV n l = true
  case neg =>
    have hb' : booksV n l = false := by simpa using hb
    rw [hb', if_neg (fun h => by cases h.1)]; rfl
  rw [hb]
  by_cases hw : way.length ≤ 20
  case neg =>
    rw [if_neg (fun h => hw h.2.1), decide_eq_true (show 20 < (way.length : Int) by omega)]; rfl
  rw [decide_eq_false (show ¬ 20 < (way.length : Int) by omega)]
  obtain ⟨o, ho, ho1, ho2, ho3⟩ : Tot (iterF (m_spec_BookWay_b0 n l thing weight way) NN (0, l)) fun o => o.length = l.length + way.length ∧ o.Perm (l ++ newsB thing weight way) ∧ o.Pairwise leB := by
    refine Tot.loop (fun k s => ∃ i : Nat, s.1 = (i : Int) ∧ i + k = way.length ∧ s.2.length = l.length + i ∧ s.2.Perm (l ++ newsB thing weight (way.take i)) ∧ s.2.Pairwise leB) (fun k s hs => ?_) NN way.length _ ⟨0, rfl, by omega, rfl, by simp [newsB], books_le hb⟩ (by unfold NN; omega)
    obtain ⟨i, hi, hk, hlen, hpp, hss⟩ := hs
    unfold m_spec_BookWay_b0
    rw [hi]
    refine Tot.cond (fun hd => ?_) fun hd => Tot.ret (by
      have := of_decide_eq_false hd
      have hi2 : i = way.length := by omega
      rw [hi2, List.take_length] at hpp
      exact ⟨by omega, hpp, hss⟩)
    have hlt := of_decide_eq_true hd
    have hwi : w64 ((i : Int) + 1) = ((i + 1 : Nat) : Int) := by rw [w64_in (by omega)]; omega
    have hil : i < way.length := by omega
    have hy : getI way (i : Int) = some way[i] := by rw [getI_nat]; exact List.getElem?_eq_getElem hil
    rw [hy, Option.bind_some, hwi]
    refine Tot.bind (add_srt (by omega) _ hss) fun r hr => Tot.ret ⟨k - 1, by omega, i + 1, rfl, by omega, by simp only; omega, ?_, hr.2.2⟩
    refine hr.2.1.trans ?_
    have : newsB thing weight (way.take (i + 1)) = newsB thing weight (way.take i) ++ [⟨thing, way[i], weight⟩] := by
      unfold newsB
      rw [List.take_succ_eq_append_getElem hil, List.map_append]; rfl
    rw [this, ← List.append_assoc]
    exact hpp.append_right _
  simp only [Bool.not_true, cond_false, ho, Option.bind_some]
  rw [specBooks_v hf (by omega), Option.bind_some, srt_books (n := n) (ho2.trans hp.symm) ho3 hs]
  by_cases hd : booksV n d = true
  · rw [hd, if_pos ⟨by trivial, hw, by trivial⟩, srt_uniq (hp.trans ho2.symm) hs ho3 hd]; rfl
  · have hd' : booksV n d = false := by simpa using hd
    rw [hd', if_neg (fun h => by cases h.2.2)]; rfl
end Go.Proofs.YtmcdjilbkmhfoaaGreat
namespace Go.Proofs.YtmcdjilbkmhfoaaGreat
set_option maxRecDepth 10000
open Go.RowKit Go.Lib Go.Sort
set_option linter.unusedVariables false
set_option linter.unusedSimpArgs false
set_option maxRecDepth 100000
set_option maxHeartbeats 4000000
abbrev SW (w : World) : Nat → Prop := fun b => b < w.heap.size
theorem repc_up {w w' : World} {p : PV} {x : Value} (h : RepC w (SW w) p x) (hu : Up w w') : RepC w' (SW w') p x :=
  h.ext (fun b hb => Nat.lt_of_lt_of_le hb hu.size) (fun b o hb => hu.cell (p := ⟨b, o, none⟩) hb)
theorem CallM.ownT {P : Program} {α : Type} [Enc α] {c : α → List PV} [hf : FlatAs c (id : α → α)] {f : FuncId} {args : List PV} {T : TypeId} {r : List α} (h : CallM P f args [] (.ms 0) [some ⟨T, Enc.k α, r.map c⟩]) {w : World} (ht : Tab w (own0 fun _ => none)) {vs : Array Value} (hl : vs.size = args.length) (ha : ∀ (i : Nat) (p : PV), args[i]? = some p → ∃ x, vs[i]? = some x ∧ Rep w (E1 (SW w) (fun _ => none) 0) p x) :
    Calls P f vs w fun e w' => ∃ v, e = .returned v ∧ Own w' w.heap.size T v r ∧ Up w w' := by
  have hok : Ok w (own0 fun _ => none) (E1 (fun b => b < w.heap.size) (fun _ => none) 0) w [] :=
    ⟨UpO.refl _ _, fun b h => h, fun l B h => (by cases h), fun l l' B B' h => (by cases h), fun l h => absurd h (Nat.not_lt_zero l), fun l B h => (by cases h), fun l mb h => (by simp at h), fun l B h => (by cases h), ht⟩
  refine (h (fun b => b < w.heap.size) (fun _ => none) w vs hok hl ha).mono ?_
  rintro e w' ⟨v, E', rfl, hk, _, _, _, hr⟩
  refine ⟨v, rfl, ?_, ⟨hk.up.os, hk.up.tape, hk.up.output, hk.up.size, fun b hb => hk.up.block b hb own_no⟩⟩
  obtain ⟨B, hB, hb, rfl⟩ := hr.ms_inv hk (l := 0) rfl
  have hkk := hb.k
  have hn : B.n = r.length := by have := hb.n; simpa using this
  have hT := hb.T
  simp only at hkk hT
  cases hz : B.z with
  | true =>
    have h0 : r = [] := by have := hb.nil hz; simpa using this
    subst h0
    have hsv : B.sv = .slice none 0 0 := by simp [Blk.sv, hz]
    rw [hsv]
    exact World.ownsRow_nil _ _ _ _
  | false =>
    have hsv : B.sv = .slice (some ⟨B.b, 0, none⟩) r.length B.c := by simp [Blk.sv, hz, hn]
    rw [hsv]
    obtain ⟨cells, hc, hcs, hcell⟩ := hb.mem hz
    have hown := hk.own 0 B hB hz
    have hfr : w.heap.size ≤ B.b := by
      rcases hown.1 with h | h
      · exact absurd h own_no
      · exact h
    refine ⟨by rw [flat_len], .inr ⟨B.b, B.c, cells, rfl, hfr, by rw [hc, hT], by rw [← hn]; exact hb.nc, hb.cm, by rw [hcs, hkk], ?_⟩⟩
    apply List.ext_getElem?
    intro t
    have hkp : 0 < Enc.k α := Enc.pos
    rcases Nat.lt_or_ge t (r.length * Enc.k α) with hi | hi
    · rw [List.getElem?_take_of_lt hi, Array.getElem?_toList]
      have hi' : t / Enc.k α < r.length := by rw [Nat.div_lt_iff_lt_mul hkp]; exact hi
      have hj := Nat.mod_lt t hkp
      have e0 : t / Enc.k α * Enc.k α + t % Enc.k α = t := by rw [Nat.mul_comm]; exact Nat.div_add_mod t _
      have hcl : (c r[t / Enc.k α]).length = Enc.k α := hf.len _
      obtain ⟨u, hu1, hu2⟩ := hf.at_ r[t / Enc.k α] (t % Enc.k α) _ (List.getElem?_eq_getElem (by rw [hcl]; exact hj))
      obtain ⟨x, x1, _, x3⟩ := hcell (t / Enc.k α) (c r[t / Enc.k α]) (t % Enc.k α) (.v u) (by simp [hi']) (by rw [List.getElem?_eq_getElem (by rw [hcl]; exact hj), hu2])
      obtain ⟨rfl, _⟩ := x3.v_inv
      rw [hkk, e0] at x1
      have hfl := flat_at (xs := r) (i := t / Enc.k α) (x := r[t / Enc.k α]) (List.getElem?_eq_getElem hi') hu1
      rw [e0] at hfl
      rw [x1, hfl]
    · rw [List.getElem?_eq_none (by rw [List.length_take]; omega), List.getElem?_eq_none (by rw [flat_len]; omega)]
theorem el_bk : ElT Tryz.prog 37 135 (Enc.k YBooking) 32 := ElT.mk' (z := .agg #[I 0, I 0, I 0, I 0]) Tryz.underlying37 (by kernel_rfl) rfl
section
variable {n : YNetwork} (hf : NetFit n) {w : World} {O : Nat → Prop} (ht : Tab w O) {v0 v1 : Value} (h0 : RepC w (SW w) (.sl (n.legs.map cLeg)) v0) (h1 : RepC w (SW w) (.sl (n.off.map cInt)) v1)
include hf ht h0 h1
theorem areB_w {W : World} (hu : Up w W) {xs : List YBooking} (hx : xs.length ≤ 1048576) {lv : Value} (hl : RepC W (SW W) (.sl (xs.map cBooking)) lv) :
    Calls Tryz.prog 139 #[.agg #[v0, v1, I n.change], lv] W fun e w' => e = .returned (.bool (booksV n xs)) ∧ Up W w' := by
  have o0 := h0.one (by simp) (by simp)
  have o1 := h1.one (by simp) (by simp)
  refine CallM.valT (ok_impl_AreBookings n xs (implBooks_v hf hx)) (tab_up ht (O' := fun _ => False) ⟨hu.os, hu.tape, hu.output, hu.size, fun b hb _ => hu.block b hb⟩ fun b _ h => h.elim) rfl fun i p hp => ?_
  match i with
  | 0 =>
    obtain rfl : _ = p := Option.some.inj hp
    refine ⟨_, rfl, .ag _ _ rfl (fun j x hx => ?_) fun j p x hp hx => ?_⟩
    · match j with
      | 0 => obtain rfl : _ = x := Option.some.inj hx
             exact o0
      | 1 => obtain rfl : _ = x := Option.some.inj hx
             exact o1
      | 2 => obtain rfl : _ = x := Option.some.inj hx
             rfl
      | j + 3 => simp at hx
    · match j with
      | 0 => obtain rfl : _ = x := Option.some.inj hx
             obtain rfl : _ = p := Option.some.inj hp
             exact .c (repc_up h0 hu)
      | 1 => obtain rfl : _ = x := Option.some.inj hx
             obtain rfl : _ = p := Option.some.inj hp
             exact .c (repc_up h1 hu)
      | 2 => obtain rfl : _ = x := Option.some.inj hx
             obtain rfl : _ = p := Option.some.inj hp
             exact rep_v _ rfl
      | j + 3 => simp at hx
  | 1 =>
    obtain rfl : _ = p := Option.some.inj hp
    exact ⟨_, rfl, .c hl⟩
  | i + 2 => simp at hp
omit hf h0 h1 in
theorem copyB_w {W : World} (hu : Up w W) {xs : List YBooking} (hx : xs.length ≤ 1048576) {lv : Value} (hl : RepC W (SW W) (.sl (xs.map cBooking)) lv) :
    Calls Tryz.prog 169 #[lv] W fun e w' => ∃ v, e = .returned v ∧ Own w' W.heap.size 135 v xs ∧ Up W w' := by
  have hm : m_impl_copyBookings xs = some xs := by
    unfold m_impl_copyBookings
    simp only [List.length_nil, chk0 hx (show 32 ≤ 1024 by omega), Option.bind_some, List.nil_append]
  refine CallM.ownT (ok_impl_copyBookings xs hm) (tab_up ht (O' := fun _ => False) ⟨hu.os, hu.tape, hu.output, hu.size, fun b hb _ => hu.block b hb⟩ fun b _ h => h.elim) rfl fun i p hp => ?_
  match i with
  | 0 =>
    obtain rfl : _ = p := Option.some.inj hp
    exact ⟨_, rfl, .c hl⟩
  | i + 1 => simp at hp
end
end Go.Proofs.YtmcdjilbkmhfoaaGreat
