/- A part of the proof of the statement in the last file of this claim: texts on the language of the program and on its functions. No condition. -/
import Derived.Test.YtjkpcfbmmkmoaaaGreatCIsOffice2
import Derived.Shelf.Small.Bits
import Derived.Shelf.Strconv.Itoa0
import Derived.Shelf.Sort.Plain
import Derived.Shelf.Slices.In.SortNone
import Derived.Shelf.Slices.In.SortNone2
import Derived.Test.YtjkpcfbmmkmoaaaGreatProg
import Derived.Shelf.GgSortMore.Iface
import Derived.Sort.OwnSortedInts
import Derived.Test.YtjkpcfbmmkmoaaaGreatCIsOffice1
import Derived.Laws.AppendOwnNone
import Derived.Maps.OwnSet
import Derived.StringKeys
import Derived.Deep.AppendLies
import Derived.Sort.OwnSorted
import Derived.Deep.QuietTactic
import Derived.BigQuiet
import Derived.Deep.DeepCutAuto
import Derived.StillTailTactics
import Derived.Deep.RegionHeld3
/- The walk: the plain types' cells, and the script. No function of the program in sight. -/
namespace Go.Proofs.YtjkpcfbmmkmoaaaGreat
set_option maxRecDepth 10000
open Go.RowKit
set_option linter.unusedVariables false
set_option linter.unusedSimpArgs false
instance : PlainC cInt := ⟨fun x q h => by simp only [cInt, List.mem_singleton] at h; subst h; rfl⟩
instance : FlatC cInt := ⟨fun x q h => by simp only [cInt, List.mem_singleton] at h; subst h; rfl⟩
instance : PlainC cStr := ⟨fun x q h => by simp only [cStr, List.mem_singleton] at h; subst h; rfl⟩
instance : FlatC cStr := ⟨fun x q h => by simp only [cStr, List.mem_singleton] at h; subst h; rfl⟩
instance : PlainC cBool := ⟨fun x q h => by simp only [cBool, List.mem_singleton] at h; subst h; rfl⟩
instance : FlatC cBool := ⟨fun x q h => by simp only [cBool, List.mem_singleton] at h; subst h; rfl⟩
instance : EncOf YLabel := ⟨cLabel⟩
instance : PlainC cLabel := ⟨fun x q h => by simp only [cLabel, List.mem_cons, List.not_mem_nil, or_false] at h; (repeat' (first | (rcases h with rfl | h; rfl) | (subst h; rfl)))⟩
instance : FlatC cLabel := ⟨fun x q h => by simp only [cLabel, List.mem_cons, List.not_mem_nil, or_false] at h; (repeat' (first | (rcases h with rfl | h; rfl) | (subst h; rfl)))⟩
instance : EncOf YParcel := ⟨cParcel⟩
instance : PlainC cParcel := ⟨fun x q h => by simp only [cParcel, List.mem_cons, List.not_mem_nil, or_false] at h; (repeat' (first | (rcases h with rfl | h; rfl) | (subst h; rfl)))⟩
instance : EncOf YZone := ⟨cZone⟩
instance : PlainC cZone := ⟨fun x q h => by simp only [cZone, List.mem_cons, List.not_mem_nil, or_false] at h; (repeat' (first | (rcases h with rfl | h; rfl) | (subst h; rfl)))⟩
instance : FlatC cZone := ⟨fun x q h => by simp only [cZone, List.mem_cons, List.not_mem_nil, or_false] at h; (repeat' (first | (rcases h with rfl | h; rfl) | (subst h; rfl)))⟩
instance : EncOf YRate := ⟨cRate⟩
instance : PlainC cRate := ⟨fun x q h => by simp only [cRate, List.mem_cons, List.not_mem_nil, or_false] at h; (repeat' (first | (rcases h with rfl | h; rfl) | (subst h; rfl)))⟩
instance : FlatC cRate := ⟨fun x q h => by simp only [cRate, List.mem_cons, List.not_mem_nil, or_false] at h; (repeat' (first | (rcases h with rfl | h; rfl) | (subst h; rfl)))⟩
instance : EncOf YLeg := ⟨cLeg⟩
instance : PlainC cLeg := ⟨fun x q h => by simp only [cLeg, List.mem_cons, List.not_mem_nil, or_false] at h; (repeat' (first | (rcases h with rfl | h; rfl) | (subst h; rfl)))⟩
instance : FlatC cLeg := ⟨fun x q h => by simp only [cLeg, List.mem_cons, List.not_mem_nil, or_false] at h; (repeat' (first | (rcases h with rfl | h; rfl) | (subst h; rfl)))⟩
instance : EncOf YNetwork := ⟨cNetwork⟩
instance : PlainC cNetwork := ⟨fun x q h => by simp only [cNetwork, List.mem_cons, List.not_mem_nil, or_false] at h; (repeat' (first | (rcases h with rfl | h; rfl) | (subst h; rfl)))⟩
instance : EncOf YTrip := ⟨cTrip⟩
instance : PlainC cTrip := ⟨fun x q h => by simp only [cTrip, List.mem_cons, List.not_mem_nil, or_false] at h; (repeat' (first | (rcases h with rfl | h; rfl) | (subst h; rfl)))⟩
instance : FlatC cTrip := ⟨fun x q h => by simp only [cTrip, List.mem_cons, List.not_mem_nil, or_false] at h; (repeat' (first | (rcases h with rfl | h; rfl) | (subst h; rfl)))⟩
instance : EncOf YBooking := ⟨cBooking⟩
instance : PlainC cBooking := ⟨fun x q h => by simp only [cBooking, List.mem_cons, List.not_mem_nil, or_false] at h; (repeat' (first | (rcases h with rfl | h; rfl) | (subst h; rfl)))⟩
instance : FlatC cBooking := ⟨fun x q h => by simp only [cBooking, List.mem_cons, List.not_mem_nil, or_false] at h; (repeat' (first | (rcases h with rfl | h; rfl) | (subst h; rfl)))⟩
instance : EncOf YScan := ⟨cScan⟩
instance : PlainC cScan := ⟨fun x q h => by simp only [cScan, List.mem_cons, List.not_mem_nil, or_false] at h; (repeat' (first | (rcases h with rfl | h; rfl) | (subst h; rfl)))⟩
instance : FlatC cScan := ⟨fun x q h => by simp only [cScan, List.mem_cons, List.not_mem_nil, or_false] at h; (repeat' (first | (rcases h with rfl | h; rfl) | (subst h; rfl)))⟩
instance : EncOf YOrder := ⟨cOrder⟩
instance : PlainC cOrder := ⟨fun x q h => by simp only [cOrder, List.mem_cons, List.not_mem_nil, or_false] at h; (repeat' (first | (rcases h with rfl | h; rfl) | (subst h; rfl)))⟩
instance : EncOf YWorld := ⟨cWorld⟩
instance : PlainC cWorld := ⟨fun x q h => by simp only [cWorld, List.mem_cons, List.not_mem_nil, or_false] at h; (repeat' (first | (rcases h with rfl | h; rfl) | (subst h; rfl)))⟩
instance : EncOf YLine := ⟨cLine⟩
instance : PlainC cLine := ⟨fun x q h => by simp only [cLine, List.mem_cons, List.not_mem_nil, or_false] at h; (repeat' (first | (rcases h with rfl | h; rfl) | (subst h; rfl)))⟩
instance : FlatC cLine := ⟨fun x q h => by simp only [cLine, List.mem_cons, List.not_mem_nil, or_false] at h; (repeat' (first | (rcases h with rfl | h; rfl) | (subst h; rfl)))⟩
instance : EncOf YAct := ⟨cAct⟩
instance : PlainC cAct := ⟨fun x q h => by simp only [cAct, List.mem_cons, List.not_mem_nil, or_false] at h; (repeat' (first | (rcases h with rfl | h; rfl) | (subst h; rfl)))⟩
instance : EncOf YOffice := ⟨cOffice⟩
instance : PlainC cOffice := ⟨fun x q h => by simp only [cOffice, List.mem_cons, List.not_mem_nil, or_false] at h; (repeat' (first | (rcases h with rfl | h; rfl) | (subst h; rfl)))⟩
instance : EncOf YItem := ⟨cItem⟩
instance : PlainC cItem := ⟨fun x q h => by simp only [cItem, List.mem_cons, List.not_mem_nil, or_false] at h; (repeat' (first | (rcases h with rfl | h; rfl) | (subst h; rfl)))⟩
instance : FlatC cItem := ⟨fun x q h => by simp only [cItem, List.mem_cons, List.not_mem_nil, or_false] at h; (repeat' (first | (rcases h with rfl | h; rfl) | (subst h; rfl)))⟩
instance : EncOf YChute := ⟨cChute⟩
instance : PlainC cChute := ⟨fun x q h => by simp only [cChute, List.mem_cons, List.not_mem_nil, or_false] at h; (repeat' (first | (rcases h with rfl | h; rfl) | (subst h; rfl)))⟩
instance : EncOf YInlet := ⟨cInlet⟩
instance : PlainC cInlet := ⟨fun x q h => by simp only [cInlet, List.mem_cons, List.not_mem_nil, or_false] at h; (repeat' (first | (rcases h with rfl | h; rfl) | (subst h; rfl)))⟩
instance : EncOf YCentre := ⟨cCentre⟩
instance : PlainC cCentre := ⟨fun x q h => by simp only [cCentre, List.mem_cons, List.not_mem_nil, or_false] at h; (repeat' (first | (rcases h with rfl | h; rfl) | (subst h; rfl)))⟩
instance : EncOf YThing := ⟨cThing⟩
instance : PlainC cThing := ⟨fun x q h => by simp only [cThing, List.mem_cons, List.not_mem_nil, or_false] at h; (repeat' (first | (rcases h with rfl | h; rfl) | (subst h; rfl)))⟩
instance : FlatC cThing := ⟨fun x q h => by simp only [cThing, List.mem_cons, List.not_mem_nil, or_false] at h; (repeat' (first | (rcases h with rfl | h; rfl) | (subst h; rfl)))⟩
instance : EncOf YBelief := ⟨cBelief⟩
instance : PlainC cBelief := ⟨fun x q h => by simp only [cBelief, List.mem_cons, List.not_mem_nil, or_false] at h; (repeat' (first | (rcases h with rfl | h; rfl) | (subst h; rfl)))⟩
attribute [go_sem] cInt cStr cBool cLabel cParcel cZone cRate cLeg cNetwork cTrip cBooking cScan cOrder cWorld cLine cAct cOffice cItem cChute cInlet cCentre cThing cBelief EncOf.c
theorem wk {p : Prop} (h : p := by
  (simp only [List.length_cons, List.length_nil, Nat.reduceAdd, Nat.reduceSub, List.replicate_succ, List.replicate_zero, List.cons_append, List.nil_append, go_sem]);
  repeat' (first
    | ((with_reducible refine pwp_seq ?_); intro K_ hK)
    | ((with_reducible refine pwp_block ?_))
    | ((with_reducible refine pwp_region ?_); simp only [go_sem, Nat.reduceAdd, Nat.reduceSub, Nat.reduceMul, Nat.reduceLT, Nat.reduceLeDiff, Nat.reduceEqDiff, if_true, eq_self])
    | ((with_reducible refine pwp_skip ?_); simp only [thenP_normal, blockP_normal])
    | ((with_reducible refine pwp_exit ?_); (simp only [thenP_exit, blockP_exit, thenP_normal, blockP_normal, if_true, if_false, eq_self, Nat.reduceEqDiff, Nat.one_ne_zero, Nat.zero_ne_one]); (try simp only [bexR, bsr, bsl] at H))
    | ((with_reducible refine pwp_ret ?_); (try simp only [thenP_ret, blockP_ret]))
    | ((with_reducible refine hQ _ _ ?_); (try simp only [bexR, bsr, bsl] at H); replace H := Hret H; subst H; simp only [Fin, resP, oneP, go_sem, Nat.reduceAdd, Nat.reduceSub, Nat.reduceMul, Nat.reduceLT, Nat.reduceLeDiff, Nat.reduceEqDiff, if_true, eq_self]; (with_reducible refine cutS ?_); (first | (with_reducible apply cut_0) | (with_reducible apply cut_1) | (with_reducible apply cut_2) | (with_reducible apply cut_3) | (with_reducible apply cut_4) | (with_reducible apply cut_5) | (with_reducible apply cut_6) | (with_reducible apply cut_7) | (with_reducible apply cut_8)); (repeat' (first       | (with_reducible refine cutT_un ?_)       | (with_reducible refine cutT_c ?_ ?_)       | (with_reducible exact cutT_nil)       | (with_reducible exact cutV_c rfl)       | exact cutV_c rfl       | (with_reducible exact cutL_nil)       | (with_reducible refine cutL_c ?_ ?_)       | exact .c _ rfl       | exact .un _       | exact cutC_ms rfl rfl       | exact cutC_be rfl rfl       | exact cutC_nilsl       | exact cutC_nilms rfl rfl       | (refine cutC_fms rfl ?_)       | (refine cutC_fbe rfl rfl ?_)       | (with_reducible refine cutV_ag ?_)       | (with_reducible refine cutV_tu ?_)       | (with_reducible exact cutAs_nil)       | (with_reducible refine cutAs_c ?_ ?_)       | (with_reducible refine cutA_ag ?_)       | (with_reducible refine cutA_k ?_)       | (with_reducible refine cutV_k ?_)       | (with_reducible exact rowsOk_nil)       | (refine rowsOk_live rfl ?_ ?_)       | (refine rowsOk_new rfl ?_)       | (with_reducible refine rowsOk_dead ?_)       | (with_reducible refine cutB_one ?_)       | (with_reducible exact cutB_nil)       | (with_reducible refine cutB_two ?_)       | (with_reducible exact cutE_n)       | (with_reducible refine cutE_c ?_ ?_)       | (with_reducible exact cutB_same)       | (with_reducible refine cutB_set ?_)       | exact cutB_same       | (refine cutB_set ?_)       | (refine cutB_rep ?_)       | (refine cutB_snoc ?_)       | (simp only [cInt, cStr, cBool, cLabel, cParcel, cZone, cRate, cLeg, cNetwork, cTrip, cBooking, cScan, cOrder, cWorld, cLine, cAct, cOffice, cItem, cChute, cInlet, cCentre, cThing, cBelief])       | (with_unfolding_all rfl))); (all_goals first | (exact dropped_of rfl) | exact none))
    | ((with_reducible refine hQn _ _ ?_); (try simp only [bexR, bsr, bsl] at H); replace H := Hret H; subst H; simp only [Fin, resP, oneP, go_sem, Nat.reduceAdd, Nat.reduceSub, Nat.reduceMul, Nat.reduceLT, Nat.reduceLeDiff, Nat.reduceEqDiff, if_true, eq_self]; (with_reducible refine cutS ?_); (first | (with_reducible apply cut_0) | (with_reducible apply cut_1) | (with_reducible apply cut_2) | (with_reducible apply cut_3) | (with_reducible apply cut_4) | (with_reducible apply cut_5) | (with_reducible apply cut_6) | (with_reducible apply cut_7) | (with_reducible apply cut_8)); (repeat' (first       | (with_reducible refine cutT_un ?_)       | (with_reducible refine cutT_c ?_ ?_)       | (with_reducible exact cutT_nil)       | (with_reducible exact cutV_c rfl)       | exact cutV_c rfl       | (with_reducible exact cutL_nil)       | (with_reducible refine cutL_c ?_ ?_)       | exact .c _ rfl       | exact .un _       | exact cutC_ms rfl rfl       | exact cutC_be rfl rfl       | exact cutC_nilsl       | exact cutC_nilms rfl rfl       | (refine cutC_fms rfl ?_)       | (refine cutC_fbe rfl rfl ?_)       | (with_reducible refine cutV_ag ?_)       | (with_reducible refine cutV_tu ?_)       | (with_reducible exact cutAs_nil)       | (with_reducible refine cutAs_c ?_ ?_)       | (with_reducible refine cutA_ag ?_)       | (with_reducible refine cutA_k ?_)       | (with_reducible refine cutV_k ?_)       | (with_reducible exact rowsOk_nil)       | (refine rowsOk_live rfl ?_ ?_)       | (refine rowsOk_new rfl ?_)       | (with_reducible refine rowsOk_dead ?_)       | (with_reducible refine cutB_one ?_)       | (with_reducible exact cutB_nil)       | (with_reducible refine cutB_two ?_)       | (with_reducible exact cutE_n)       | (with_reducible refine cutE_c ?_ ?_)       | (with_reducible exact cutB_same)       | (with_reducible refine cutB_set ?_)       | exact cutB_same       | (refine cutB_set ?_)       | (refine cutB_rep ?_)       | (refine cutB_snoc ?_)       | (simp only [cInt, cStr, cBool, cLabel, cParcel, cZone, cRate, cLeg, cNetwork, cTrip, cBooking, cScan, cOrder, cWorld, cLine, cAct, cOffice, cItem, cChute, cInlet, cCentre, cThing, cBelief])       | (with_unfolding_all rfl))); (all_goals first | (exact dropped_of rfl) | exact none))
    | ((with_reducible refine gateS ?_); (refine gate2_intro (fun hg => Hc1k H hg ?_) (fun hg => Hc2k H hg ?_)) <;> (clear H; intro H; simp only [go_sem, Nat.reduceAdd, Nat.reduceSub, Nat.reduceMul, Nat.reduceLT, Nat.reduceLeDiff, Nat.reduceEqDiff, if_true, eq_self]))
    | ((with_reducible refine pwp_condE ?_); simp only [evP_tmp, getD_z, getD_s, evP_bool]; (first | (with_reducible refine condP_tt ?_) | (with_reducible refine condP_ff ?_) | ((refine condP_intro (fun hg => Hc1k H hg ?_) (fun hg => Hc2k H hg ?_)) <;> (clear H; intro H))))
    | ((with_reducible refine idxS ?_); replace H := Hcall H; obtain ⟨y_, hy, H⟩ := H; (with_reducible apply idx_sl hy); (focus (first | (simp only [go_sem]; done) | (simp only [go_sem]; decide))); (focus (first | rfl | (simp only [go_sem]; rfl))); simp only [go_sem, Nat.reduceAdd, Nat.reduceSub, Nat.reduceMul, Nat.reduceLT, Nat.reduceLeDiff, Nat.reduceEqDiff, if_true, eq_self])
    | ((with_reducible refine idxM ?_); replace H := Hcall H; obtain ⟨y_, hy, H⟩ := H; (refine idx_msb hy (by rfl) (by first | (simp only [go_sem]; done) | (simp only [go_sem]; decide)) (by first | rfl | (simp only [go_sem]; rfl)) ?_); simp only [go_sem, Nat.reduceAdd, Nat.reduceSub, Nat.reduceMul, Nat.reduceLT, Nat.reduceLeDiff, Nat.reduceEqDiff, if_true, eq_self])
    | ((with_reducible refine idxB ?_); replace H := Hcall H; obtain ⟨y_, hy, H⟩ := H; (with_reducible apply idx_str hy); (focus (simp only [go_sem])); simp only [go_sem, Nat.reduceAdd, Nat.reduceSub, Nat.reduceMul, Nat.reduceLT, Nat.reduceLeDiff, Nat.reduceEqDiff, if_true, eq_self])
    | ((with_reducible refine callS ?_); replace H := Hcall H; obtain ⟨y_, hy, H⟩ := H; (first | ((with_reducible apply call_deep); (focus (exact CT.ok hy)); (focus (simp [isCA, isC, isC1])); (focus (exact Nat.le_of_ble_eq_true rfl)); (focus (first | exact hm_nil | exact hm_one | exact hm_oneT | exact hm_c hm_one (hm_c hm_one hm_one) | exact hm_c hm_one hm_one)); (focus (first | exact gV_ag rfl | exact gV_tu rfl | exact (fun h => (by cases h)) | (simp [CT.res, goodV, goodA, goodC]))); (simp only [CT.res, CT.mem, go_sem, Nat.reduceAdd, Nat.reduceSub, Nat.reduceMul, Nat.reduceLT, Nat.reduceLeDiff, Nat.reduceEqDiff, if_true, eq_self])) | ((with_reducible apply call_flat); (focus (simp only [snapA, snapV, snapC, snapL, live_look, look_z, look_s, rowQ_map, List.forall_mem_nil, true_and, and_true]; (first | exact CT.ok hy | (simp only [all_nil, all_cons, isC, isC1, true_and, and_true]; exact CT.ok hy)))); (focus (exact Nat.le_of_ble_eq_true rfl)); (focus (first | exact hm_nil | exact hm_one | exact hm_oneT | exact hm_c hm_one (hm_c hm_one hm_one) | exact hm_c hm_one hm_one)); (focus (first | exact gV_agF rfl | exact (fun _ => rfl) | (simp [CT.res, goodV, goodA, goodC, isF]))); (simp only [CT.res, CT.mem, go_sem, Nat.reduceAdd, Nat.reduceSub, Nat.reduceMul, Nat.reduceLT, Nat.reduceLeDiff, Nat.reduceEqDiff, if_true, eq_self]))))
    | ((with_reducible refine slcS ?_); replace H := Hchk H; obtain ⟨hc, H⟩ := H; (first | ((with_reducible apply slice_sl hc); (focus rfl); (focus rfl); (focus (first | (simp only [go_sem]; done) | (simp only [go_sem]; decide))); (focus (first | rfl | (intro x_; rfl))); simp only [go_sem, Nat.reduceAdd, Nat.reduceSub, Nat.reduceMul, Nat.reduceLT, Nat.reduceLeDiff, Nat.reduceEqDiff, if_true, eq_self]) | ((refine slice_msb hc (by rfl) (by rfl) (by rfl) (by first | (simp only [go_sem]; done) | (simp only [go_sem]; decide)) (by first | rfl | (simp only [go_sem]; rfl)) ?_); simp only [go_sem, Nat.reduceAdd, Nat.reduceSub, Nat.reduceMul, Nat.reduceLT, Nat.reduceLeDiff, Nat.reduceEqDiff, if_true, eq_self]) | ((with_reducible apply slice_str hc); (focus rfl); (focus rfl); (focus (simp only [go_sem])); simp only [go_sem, Nat.reduceAdd, Nat.reduceSub, Nat.reduceMul, Nat.reduceLT, Nat.reduceLeDiff, Nat.reduceEqDiff, if_true, eq_self])))
    | ((with_reducible refine appS ?_); replace H := Hchk H; obtain ⟨hc, H⟩ := H; (first | (refine app_msb hc (by first | (simp only [go_sem]; done) | (simp only [go_sem]; rfl)) (by first | (simp only [go_sem]; done) | (simp only [go_sem]; rfl)) (by first | (simp only [go_sem]; done) | (simp only [go_sem]; rfl)) (by first | (simp only [go_sem]; done) | (simp only [go_sem]; rfl)) (by rfl) (by first | rfl | exact src_ss' (by rfl) (by rfl) (by rfl)) rfl rfl (by intro x_; rfl) rfl ?_) | (refine app_nlb hc (by first | (simp only [go_sem]; done) | (simp only [go_sem]; rfl)) (by first | (simp only [go_sem]; done) | (simp only [go_sem]; rfl)) (by first | (simp only [go_sem]; done) | (simp only [go_sem]; rfl)) (by first | (simp only [go_sem]; done) | (simp only [go_sem]; rfl)) (by first | rfl | exact src_ss' (by rfl) (by rfl) (by rfl)) rfl rfl (by intro x_; rfl) ?_)); simp only [go_sem, Nat.reduceAdd, Nat.reduceSub, Nat.reduceMul, Nat.reduceLT, Nat.reduceLeDiff, Nat.reduceEqDiff, if_true, eq_self])
    | ((with_reducible refine mkS ?_); replace H := Hchk H; obtain ⟨hc, H⟩ := H; (refine make_b hc (by first | (simp only [go_sem]; done) | (simp only [go_sem]; rfl)) (by first | (simp only [go_sem]; done) | (simp only [go_sem]; rfl)) (by first | (simp only [go_sem]; done) | (simp only [go_sem]; rfl)) (by first | (simp only [go_sem]; done) | (simp only [go_sem]; rfl)) rfl rfl ?_); simp only [go_sem, Nat.reduceAdd, Nat.reduceSub, Nat.reduceMul, Nat.reduceLT, Nat.reduceLeDiff, Nat.reduceEqDiff, if_true, eq_self])
    | ((with_reducible refine optS ?_); (first | (with_reducible refine opt_if (by decide) ?_) | (replace H := Hchk H; obtain ⟨hc, H⟩ := H; (first | (refine opt_if hc ?_) | (refine opt_if (of_decide_eq_true hc) ?_) | (refine opt_if ⟨rfl, of_decide_eq_true hc⟩ ?_)))); simp only [go_sem, Nat.reduceAdd, Nat.reduceSub, Nat.reduceMul, Nat.reduceLT, Nat.reduceLeDiff, Nat.reduceEqDiff, if_true, eq_self])
    | ((with_reducible refine loopS ?_); (refine pwp_loopH (Hlp H) ?_ ?_); (focus (simp only [LoopE.T, LoopE.M]; (with_reducible refine cutS ?_); (first | (with_reducible apply cut_0) | (with_reducible apply cut_1) | (with_reducible apply cut_2) | (with_reducible apply cut_3) | (with_reducible apply cut_4) | (with_reducible apply cut_5) | (with_reducible apply cut_6) | (with_reducible apply cut_7) | (with_reducible apply cut_8)); (repeat' (first       | (with_reducible refine cutT_un ?_)       | (with_reducible refine cutT_c ?_ ?_)       | (with_reducible exact cutT_nil)       | (with_reducible exact cutV_c rfl)       | exact cutV_c rfl       | (with_reducible exact cutL_nil)       | (with_reducible refine cutL_c ?_ ?_)       | exact .c _ rfl       | exact .un _       | exact cutC_ms rfl rfl       | exact cutC_be rfl rfl       | exact cutC_nilsl       | exact cutC_nilms rfl rfl       | (refine cutC_fms rfl ?_)       | (refine cutC_fbe rfl rfl ?_)       | (with_reducible refine cutV_ag ?_)       | (with_reducible refine cutV_tu ?_)       | (with_reducible exact cutAs_nil)       | (with_reducible refine cutAs_c ?_ ?_)       | (with_reducible refine cutA_ag ?_)       | (with_reducible refine cutA_k ?_)       | (with_reducible refine cutV_k ?_)       | (with_reducible exact rowsOk_nil)       | (refine rowsOk_live rfl ?_ ?_)       | (refine rowsOk_new rfl ?_)       | (with_reducible refine rowsOk_dead ?_)       | (with_reducible refine cutB_one ?_)       | (with_reducible exact cutB_nil)       | (with_reducible refine cutB_two ?_)       | (with_reducible exact cutE_n)       | (with_reducible refine cutE_c ?_ ?_)       | (with_reducible exact cutB_same)       | (with_reducible refine cutB_set ?_)       | exact cutB_same       | (refine cutB_set ?_)       | (refine cutB_rep ?_)       | (refine cutB_snoc ?_)       | (simp only [cInt, cStr, cBool, cLabel, cParcel, cZone, cRate, cLeg, cNetwork, cTrip, cBooking, cScan, cOrder, cWorld, cLine, cAct, cOffice, cItem, cChute, cInlet, cCentre, cThing, cBelief])       | (with_unfolding_all rfl))); (all_goals first | (exact dropped_of rfl) | exact none))); (clear H; intro n_ s_ H K_ hL; replace H := Hrd H; simp only [LoopE.T, LoopE.M]))
    | ((with_reducible refine pwp_draw (by kernel_rfl) ?_); simp only [go_sem, Nat.reduceAdd, Nat.reduceSub, Nat.reduceMul, Nat.reduceLT, Nat.reduceLeDiff, Nat.reduceEqDiff, if_true, eq_self])
    | ((with_reducible refine endD_intro (by kernel_rfl) ?_); simp only [thenP_normal, blockP_normal])
    | ((with_reducible refine hK _ _ ?_); clear hK)
    | (clear hK; (with_reducible refine hK _ _ ?_); clear hK)
    | (clear hK; clear hK; (with_reducible refine hK _ _ ?_); clear hK)
    | (clear hK; clear hK; clear hK; (with_reducible refine hK _ _ ?_); clear hK)
    | (clear hK; clear hK; clear hK; clear hK; (with_reducible refine hK _ _ ?_); clear hK)
    | (clear hK; clear hK; clear hK; clear hK; clear hK; (with_reducible refine hK _ _ ?_); clear hK)
    | ((with_reducible refine And.intro ?_ ?_); omega)
    | (simp only [nxt_app, nxd_app, atM_app]; simp only [go_sem, Nat.reduceAdd, Nat.reduceSub, Nat.reduceMul, Nat.reduceLT, Nat.reduceLeDiff, Nat.reduceEqDiff, if_true, eq_self])
    | (simp only [idxmap hy, go_sem, Nat.reduceAdd, Nat.reduceSub, Nat.reduceMul, Nat.reduceLT, Nat.reduceLeDiff, Nat.reduceEqDiff, if_true, eq_self])
    | ((with_reducible replace H := HexL H); (with_reducible refine hL _ _ _ H ?_); (try simp only [LoopE.T, LoopE.M]); (with_reducible refine cutS ?_); (first | (with_reducible apply cut_0) | (with_reducible apply cut_1) | (with_reducible apply cut_2) | (with_reducible apply cut_3) | (with_reducible apply cut_4) | (with_reducible apply cut_5) | (with_reducible apply cut_6) | (with_reducible apply cut_7) | (with_reducible apply cut_8)); (repeat' (first       | (with_reducible refine cutT_un ?_)       | (with_reducible refine cutT_c ?_ ?_)       | (with_reducible exact cutT_nil)       | (with_reducible exact cutV_c rfl)       | exact cutV_c rfl       | (with_reducible exact cutL_nil)       | (with_reducible refine cutL_c ?_ ?_)       | exact .c _ rfl       | exact .un _       | exact cutC_ms rfl rfl       | exact cutC_be rfl rfl       | exact cutC_nilsl       | exact cutC_nilms rfl rfl       | (refine cutC_fms rfl ?_)       | (refine cutC_fbe rfl rfl ?_)       | (with_reducible refine cutV_ag ?_)       | (with_reducible refine cutV_tu ?_)       | (with_reducible exact cutAs_nil)       | (with_reducible refine cutAs_c ?_ ?_)       | (with_reducible refine cutA_ag ?_)       | (with_reducible refine cutA_k ?_)       | (with_reducible refine cutV_k ?_)       | (with_reducible exact rowsOk_nil)       | (refine rowsOk_live rfl ?_ ?_)       | (refine rowsOk_new rfl ?_)       | (with_reducible refine rowsOk_dead ?_)       | (with_reducible refine cutB_one ?_)       | (with_reducible exact cutB_nil)       | (with_reducible refine cutB_two ?_)       | (with_reducible exact cutE_n)       | (with_reducible refine cutE_c ?_ ?_)       | (with_reducible exact cutB_same)       | (with_reducible refine cutB_set ?_)       | exact cutB_same       | (refine cutB_set ?_)       | (refine cutB_rep ?_)       | (refine cutB_snoc ?_)       | (simp only [cInt, cStr, cBool, cLabel, cParcel, cZone, cRate, cLeg, cNetwork, cTrip, cBooking, cScan, cOrder, cWorld, cLine, cAct, cOffice, cItem, cChute, cInlet, cCentre, cThing, cBelief])       | (with_unfolding_all rfl))); (all_goals first | (exact dropped_of rfl) | exact none))
    | ((with_reducible replace H := HexL H); clear hL; (with_reducible refine hL _ _ _ H ?_); (try simp only [LoopE.T, LoopE.M]); (with_reducible refine cutS ?_); (first | (with_reducible apply cut_0) | (with_reducible apply cut_1) | (with_reducible apply cut_2) | (with_reducible apply cut_3) | (with_reducible apply cut_4) | (with_reducible apply cut_5) | (with_reducible apply cut_6) | (with_reducible apply cut_7) | (with_reducible apply cut_8)); (repeat' (first       | (with_reducible refine cutT_un ?_)       | (with_reducible refine cutT_c ?_ ?_)       | (with_reducible exact cutT_nil)       | (with_reducible exact cutV_c rfl)       | exact cutV_c rfl       | (with_reducible exact cutL_nil)       | (with_reducible refine cutL_c ?_ ?_)       | exact .c _ rfl       | exact .un _       | exact cutC_ms rfl rfl       | exact cutC_be rfl rfl       | exact cutC_nilsl       | exact cutC_nilms rfl rfl       | (refine cutC_fms rfl ?_)       | (refine cutC_fbe rfl rfl ?_)       | (with_reducible refine cutV_ag ?_)       | (with_reducible refine cutV_tu ?_)       | (with_reducible exact cutAs_nil)       | (with_reducible refine cutAs_c ?_ ?_)       | (with_reducible refine cutA_ag ?_)       | (with_reducible refine cutA_k ?_)       | (with_reducible refine cutV_k ?_)       | (with_reducible exact rowsOk_nil)       | (refine rowsOk_live rfl ?_ ?_)       | (refine rowsOk_new rfl ?_)       | (with_reducible refine rowsOk_dead ?_)       | (with_reducible refine cutB_one ?_)       | (with_reducible exact cutB_nil)       | (with_reducible refine cutB_two ?_)       | (with_reducible exact cutE_n)       | (with_reducible refine cutE_c ?_ ?_)       | (with_reducible exact cutB_same)       | (with_reducible refine cutB_set ?_)       | exact cutB_same       | (refine cutB_set ?_)       | (refine cutB_rep ?_)       | (refine cutB_snoc ?_)       | (simp only [cInt, cStr, cBool, cLabel, cParcel, cZone, cRate, cLeg, cNetwork, cTrip, cBooking, cScan, cOrder, cWorld, cLine, cAct, cOffice, cItem, cChute, cInlet, cCentre, cThing, cBelief])       | (with_unfolding_all rfl))); (all_goals first | (exact dropped_of rfl) | exact none)))) : p := h
theorem eqT_Trip {n : Nat} {a b a2 b2 : Int} : eqT Tryz.prog (n + 3) 102 [vi a, vi b] [vi a2, vi b2] = some (decide ((⟨a, b⟩ : YTrip) = (⟨a2, b2⟩ : YTrip))) := by
  simp only [eqT, Tryz.underlying3, Tryz.underlying102, ts102, Program.fieldsOf, go_sem]
  simp [tc102, tc3]
  try rfl
@[go_sem] theorem eqK_Trip {a b a2 b2 : Int} {KR : PV → Prop} : eqK Tryz.prog .eql 102 [vi a, vi b] [vi a2, vi b2] KR = KR (vb (decide ((⟨a, b⟩ : YTrip) = (⟨a2, b2⟩ : YTrip)))) := by unfold eqK; rw [show (10000 : Nat) = 9997 + 3 from rfl, eqT_Trip, Tryz.underlying102]; simp only [te102, true_and]
@[go_sem] theorem neK_Trip {a b a2 b2 : Int} {KR : PV → Prop} : eqK Tryz.prog .neq 102 [vi a, vi b] [vi a2, vi b2] KR = KR (vb (!decide ((⟨a, b⟩ : YTrip) = (⟨a2, b2⟩ : YTrip)))) := by unfold eqK; rw [show (10000 : Nat) = 9997 + 3 from rfl, eqT_Trip, Tryz.underlying102]; simp only [te102, true_and]
theorem eqT_Booking {n : Nat} {a b c d a2 b2 c2 d2 : Int} : eqT Tryz.prog (n + 3) 214 [vi a, vi b, vi c, vi d] [vi a2, vi b2, vi c2, vi d2] = some (decide ((⟨a, ⟨b, c⟩, d⟩ : YBooking) = (⟨a2, ⟨b2, c2⟩, d2⟩ : YBooking))) := by
  simp only [eqT, Tryz.underlying3, Tryz.underlying214, ts214, Tryz.underlying102, ts102, Program.fieldsOf, go_sem]
  simp [tc214, tc102, tc3]
  try rfl
@[go_sem] theorem eqK_Booking {a b c d a2 b2 c2 d2 : Int} {KR : PV → Prop} : eqK Tryz.prog .eql 214 [vi a, vi b, vi c, vi d] [vi a2, vi b2, vi c2, vi d2] KR = KR (vb (decide ((⟨a, ⟨b, c⟩, d⟩ : YBooking) = (⟨a2, ⟨b2, c2⟩, d2⟩ : YBooking)))) := by unfold eqK; rw [show (10000 : Nat) = 9997 + 3 from rfl, eqT_Booking, Tryz.underlying214]; simp only [te214, true_and]
@[go_sem] theorem neK_Booking {a b c d a2 b2 c2 d2 : Int} {KR : PV → Prop} : eqK Tryz.prog .neq 214 [vi a, vi b, vi c, vi d] [vi a2, vi b2, vi c2, vi d2] KR = KR (vb (!decide ((⟨a, ⟨b, c⟩, d⟩ : YBooking) = (⟨a2, ⟨b2, c2⟩, d2⟩ : YBooking)))) := by unfold eqK; rw [show (10000 : Nat) = 9997 + 3 from rfl, eqT_Booking, Tryz.underlying214]; simp only [te214, true_and]
end Go.Proofs.YtjkpcfbmmkmoaaaGreat

/- The mirror of impl_IsPlace, and that the code does just that (printed by a program of my own). -/
namespace Go.Proofs.YtjkpcfbmmkmoaaaGreat
set_option maxRecDepth 10000
open Go.RowKit
set_option linter.unusedVariables false
set_option maxHeartbeats 16000000
def m_impl_IsPlace_b0 (s : ByteArray) (s0 : Int) : Option (Int ⊕ (Unit ⊕ Bool)) :=
 cond (decide (s0 < (s.size : Int)))
 ((getB s s0).bind fun y1 =>
 cond (decide (y1 < 65))
 (some (.inr (.inr false)))
 ((getB s s0).bind fun y2 =>
 cond (decide (90 < y2))
 (some (.inr (.inr false)))
 (some (.inl (w64 (s0 + 1))))))
 (some (.inr (.inl ())))
instance (s : ByteArray) : LoopE (m_impl_IsPlace_b0 s) := ⟨fun s0 => [vs s, .un, .un, vi s0, .un, .un, .un, .un, .un, .un, .un, .un, .un, .un, .un, .un, .un, .un, .un, .un, .un, .un, .un], fun s0 => []⟩
def m_impl_IsPlace (s : ByteArray) : Option Bool :=
 (iterF (m_impl_IsPlace_b0 s) NN 0).bind (selim (fun o0 =>
 some (decide ((s.size : Int) = 3))) (fun r => some r))
theorem ok_impl_IsPlace (s : ByteArray) {r : Bool} (H : m_impl_IsPlace s = some r) : CallM Tryz.prog 137 [vs s] [] (vb r) [] := by
  replace H := H0 H
  unfold m_impl_IsPlace at H
  refine callM_of Tryz.func137 rfl Tryz.ntmps137 Tryz.results137 fun Q hQ hQn => ?_
  exact wk
instance (s : ByteArray) : CT Tryz.prog (m_impl_IsPlace s) := ⟨137, [vs s], [], fun r => vb r, fun r => [], ok_impl_IsPlace s⟩
end Go.Proofs.YtjkpcfbmmkmoaaaGreat

/- The mirror of spec_l1In, and that the code does just that (printed by a program of my own). -/
namespace Go.Proofs.YtjkpcfbmmkmoaaaGreat
set_option maxRecDepth 10000
open Go.RowKit
set_option linter.unusedVariables false
set_option maxHeartbeats 16000000
def m_spec_l1In (x : Int) (least : Int) (most : Int) : Option Bool :=
 cond (decide (least ≤ x))
 (some (decide (x ≤ most)))
 (some false)
theorem ok_spec_l1In (x : Int) (least : Int) (most : Int) {r : Bool} (H : m_spec_l1In x least most = some r) : CallM Tryz.prog 90 [vi x, vi least, vi most] [] (vb r) [] := by
  replace H := H0 H
  unfold m_spec_l1In at H
  refine callM_of Tryz.func90 rfl Tryz.ntmps90 Tryz.results90 fun Q hQ hQn => ?_
  exact wk
instance (x : Int) (least : Int) (most : Int) : CT Tryz.prog (m_spec_l1In x least most) := ⟨90, [vi x, vi least, vi most], [], fun r => vb r, fun r => [], ok_spec_l1In x least most⟩
end Go.Proofs.YtjkpcfbmmkmoaaaGreat

/- The mirror of spec_IsPlace, and that the code does just that (printed by a program of my own). -/
namespace Go.Proofs.YtjkpcfbmmkmoaaaGreat
set_option maxRecDepth 10000
open Go.RowKit
set_option linter.unusedVariables false
set_option maxHeartbeats 16000000
def m_spec_IsPlace_b0 (s : ByteArray) (s0 : Int) : Option (Int ⊕ (Unit ⊕ Bool)) :=
 cond (decide (s0 < 3))
 ((getB s s0).bind fun y1 =>
 (m_spec_l1In (IntKind.i64.wrap y1) 65 90).bind fun y2 =>
 cond (!y2)
 (some (.inr (.inr false)))
 (some (.inl (w64 (s0 + 1)))))
 (some (.inr (.inl ())))
instance (s : ByteArray) : LoopE (m_spec_IsPlace_b0 s) := ⟨fun s0 => [vs s, .un, .un, vi s0, .un, .un, .un, .un, .un, .un, .un, .un, .un, .un, .un, .un, .un], fun s0 => []⟩
def m_spec_IsPlace (s : ByteArray) : Option Bool :=
 cond (!decide ((s.size : Int) = 3))
 (some false)
 ((iterF (m_spec_IsPlace_b0 s) NN 0).bind (selim (fun o0 =>
 some true) (fun r => some r)))
theorem ok_spec_IsPlace (s : ByteArray) {r : Bool} (H : m_spec_IsPlace s = some r) : CallM Tryz.prog 121 [vs s] [] (vb r) [] := by
  replace H := H0 H
  unfold m_spec_IsPlace at H
  refine callM_of Tryz.func121 rfl Tryz.ntmps121 Tryz.results121 fun Q hQ hQn => ?_
  exact wk
instance (s : ByteArray) : CT Tryz.prog (m_spec_IsPlace s) := ⟨121, [vs s], [], fun r => vb r, fun r => [], ok_spec_IsPlace s⟩
end Go.Proofs.YtjkpcfbmmkmoaaaGreat

/- The mirror of impl_within, and that the code does just that (printed by a program of my own). -/
namespace Go.Proofs.YtjkpcfbmmkmoaaaGreat
set_option maxRecDepth 10000
open Go.RowKit
set_option linter.unusedVariables false
set_option maxHeartbeats 16000000
def m_impl_within (n : Int) (low : Int) (high : Int) : Option Bool :=
 cond (decide (low ≤ n))
 (some (decide (n ≤ high)))
 (some false)
theorem ok_impl_within (n : Int) (low : Int) (high : Int) {r : Bool} (H : m_impl_within n low high = some r) : CallM Tryz.prog 98 [vi n, vi low, vi high] [] (vb r) [] := by
  replace H := H0 H
  unfold m_impl_within at H
  refine callM_of Tryz.func98 rfl Tryz.ntmps98 Tryz.results98 fun Q hQ hQn => ?_
  exact wk
instance (n : Int) (low : Int) (high : Int) : CT Tryz.prog (m_impl_within n low high) := ⟨98, [vi n, vi low, vi high], [], fun r => vb r, fun r => [], ok_impl_within n low high⟩
end Go.Proofs.YtjkpcfbmmkmoaaaGreat

/- The two sides' functions on numbers and places answer alike. -/
namespace Go.Proofs.YtjkpcfbmmkmoaaaGreat
set_option maxRecDepth 10000
open Go.RowKit
set_option linter.unusedVariables false
set_option linter.unusedSimpArgs false
theorem within_v (n l h : Int) : m_impl_within n l h = some (decide (l ≤ n) && decide (n ≤ h)) := by
  unfold m_impl_within; cases decide (l ≤ n) <;> rfl
theorem l1In_v (n l h : Int) : m_spec_l1In n l h = some (decide (l ≤ n) && decide (n ≤ h)) := by
  unfold m_spec_l1In; cases decide (l ≤ n) <;> rfl
theorem within_eq : @m_impl_within = @m_spec_l1In := by funext n l h; rw [within_v, l1In_v]
theorem getB_in {s : ByteArray} {i c : Int} (h : getB s i = some c) : 0 ≤ c ∧ c ≤ 255 := by
  unfold getB at h
  split at h
  · cases h
    unfold byteAt
    cases hb : s[i.toNat]? with
    | none => simp
    | some b =>
      have := b.toNat_lt
      simp only [Option.map_some, Option.getD_some]
      omega
  · cases h
theorem placeB_eq {s : ByteArray} (hs : s.size = 3) : m_impl_IsPlace_b0 s = m_spec_IsPlace_b0 s := by
  funext i
  unfold m_impl_IsPlace_b0 m_spec_IsPlace_b0
  rw [hs]
  cases hi : decide (i < 3) with
  | false => simp [hi]
  | true =>
    simp only [show ((3 : Nat) : Int) = 3 from rfl, hi, cond_true]
    cases hg : getB s i with
    | none => rfl
    | some y =>
      obtain ⟨h0, h1⟩ := getB_in hg
      simp only [Option.bind_some, hg]
      rw [show IntKind.i64.wrap y = y from w64_in (by omega), l1In_v]
      simp only [Option.bind_some]
      by_cases h2 : y < 65
      · simp [h2, show ¬ (65 ≤ y) by omega]
      · by_cases h3 : 90 < y
        · simp [h2, h3, show ¬ (y ≤ 90) by omega]
        · simp [h2, h3, show 65 ≤ y by omega, show y ≤ 90 by omega]
theorem getB_some {s : ByteArray} {i : Nat} (h : i < s.size) : ∃ c, getB s (i : Int) = some c := by
  unfold getB; exact ⟨_, if_pos ⟨by omega, by omega⟩⟩
/-- The loop over a place's bytes comes to an end. -/
theorem placeL_some {s : ByteArray} (hs : s.size ≤ 1152921504606846000) : ∀ (k i N : Nat), i + k = s.size → k < N → ∃ o, iterF (m_impl_IsPlace_b0 s) N (i : Int) = some o ∧ (o = .inl () ∨ o = .inr false) := by
  intro k
  induction k with
  | zero =>
    intro i N hi hk
    cases N with
    | zero => omega
    | succ N => exact ⟨.inl (), by simp [iterF, m_impl_IsPlace_b0, show ¬ ((i : Int) < s.size) by omega], .inl rfl⟩
  | succ k ih =>
    intro i N hi hk
    cases N with
    | zero => omega
    | succ N =>
      obtain ⟨c, hc⟩ := getB_some (s := s) (i := i) (by omega)
      have hw := w64_nat (i := i) (n := s.size) (by omega) (by omega)
      by_cases h2 : c < 65
      · exact ⟨.inr false, by simp [iterF, m_impl_IsPlace_b0, show (i : Int) < s.size by omega, hc, h2], .inr rfl⟩
      · by_cases h3 : 90 < c
        · exact ⟨.inr false, by simp [iterF, m_impl_IsPlace_b0, show (i : Int) < s.size by omega, hc, h2, h3], .inr rfl⟩
        · obtain ⟨o, ho, hoo⟩ := ih (i + 1) N (by omega) (by omega)
          refine ⟨o, ?_, hoo⟩
          simp only [iterF, m_impl_IsPlace_b0, decide_eq_true (show (i : Int) < s.size by omega), cond_true, hc, Option.bind_some, decide_eq_false h2, decide_eq_false h3, cond_false, hw]
          exact ho
theorem isPlace_eq {s : ByteArray} (hs : s.size ≤ 1152921504606846000) : m_impl_IsPlace s = m_spec_IsPlace s ∧ ∃ b, m_spec_IsPlace s = some b := by
  obtain ⟨o, ho, hoo⟩ := placeL_some hs s.size 0 NN (by omega) (by unfold NN; omega)
  have ho' : iterF (m_impl_IsPlace_b0 s) NN 0 = some o := ho
  by_cases h3 : s.size = 3
  · have e : m_spec_IsPlace s = (iterF (m_impl_IsPlace_b0 s) NN 0).bind (selim (fun _ => some true) (fun r => some r)) := by
      unfold m_spec_IsPlace; rw [placeB_eq h3, h3]; rfl
    have e2 : m_impl_IsPlace s = (iterF (m_impl_IsPlace_b0 s) NN 0).bind (selim (fun _ => some (decide ((s.size : Int) = 3))) (fun r => some r)) := rfl
    rw [e, e2, ho', h3]
    rcases hoo with rfl | rfl
    · exact ⟨rfl, _, rfl⟩
    · exact ⟨rfl, _, rfl⟩
  · have e : m_spec_IsPlace s = some false := by unfold m_spec_IsPlace; rw [decide_eq_false (by omega)]; rfl
    have e2 : m_impl_IsPlace s = some false := by
      unfold m_impl_IsPlace; rw [ho']
      rcases hoo with rfl | rfl
      · show some _ = some _; rw [decide_eq_false (by omega)]
      · rfl
    exact ⟨by rw [e, e2], _, e⟩
def B60 : Nat := 1152921504606846000
end Go.Proofs.YtjkpcfbmmkmoaaaGreat

/- The second script: as_ wk; nested own rows are frozen ahead of a region that appends them. No function of the program in sight. -/
namespace Go.Proofs.YtjkpcfbmmkmoaaaGreat
set_option maxRecDepth 10000
open Go.RowKit
set_option linter.unusedVariables false
set_option linter.unusedSimpArgs false
/-- A mark in a mirror: here the state is cut to this one. -/
def frz (t : List PV) (m : Mem) : Option Unit := some ()
theorem Cuts.trans {n0 : Nat} {t t1 t2 : List PV} {m m1 m2 : Mem} (h : Cuts n0 t m t1 m1) (k : Cuts n0 t1 m1 t2 m2) : Cuts n0 t m t2 m2 := by
  induction h with
  | one h => exact .two h k
  | two h h' ih => exact .two h (ih k)
theorem pwp_frz {P : Program} {n0 : Nat} {Q : Exit → List PV → Mem → Prop} {t T : List PV} {m M : Mem} {α β : Type} {F : Unit → Option α} {K : α → Option β} {r : β} {i : Nat} {ops : Array Oper} {draw : Bool}
    (H : ((frz T M).bind F).bind K = some r) (hc : Cuts n0 t m T M) (hk : (F ()).bind K = some r → pwp P n0 (.region i ops draw) Q T M) : pwp P n0 (.region i ops draw) Q t m := by
  rcases hk H with h | ⟨t1, m1, h1, h2⟩
  · exact .inr ⟨T, M, hc, h⟩
  · exact .inr ⟨t1, m1, hc.trans h1, h2⟩
/-- The same, for rows that were written to: they get a name. -/
def frzL {α : Type} (x : α) (t : α → List PV) (m : α → Mem) : Option α := some x
theorem pwp_frzL {P : Program} {n0 : Nat} {Q : Exit → List PV → Mem → Prop} {t : List PV} {m : Mem} {ξ α β : Type} {x : ξ} {T : ξ → List PV} {M : ξ → Mem} {F : ξ → Option α} {K : α → Option β} {r : β} {i : Nat} {ops : Array Oper} {draw : Bool}
    (H : ((frzL x T M).bind F).bind K = some r) (hc : Cuts n0 t m (T x) (M x)) (hk : ∀ z, (F z).bind K = some r → pwp P n0 (.region i ops draw) Q (T z) (M z)) : pwp P n0 (.region i ops draw) Q t m := by
  rcases hk x H with h | ⟨t1, m1, h1, h2⟩
  · exact .inr ⟨T x, M x, hc, h⟩
  · exact .inr ⟨t1, m1, hc.trans h1, h2⟩
/-- A mark in a mirror: the own rows that the next call is handed. -/
def rhoM (ρ : List Nat) : Option Unit := some ()
theorem call_io {R α β : Type} {P : Program} {ρ : List Nat} {A : Option R} [C : CT P A] {F : Unit → Option α} {G : R → Option α} {K : α → Option β} {r : β} {f : FuncId} {ps : List PV} {io : Bool} {wd ν : Nat} {m : Mem} {KA : PV → Mem → Prop}
    (H : ((rhoM ρ).bind F).bind K = some r) (hF : F () = A.bind G) (hf : C.f = f) (hio : io = true) (hps : ps = C.args.map (renA (sig ρ ν))) (hq : ∀ q ∈ C.args, goodA false q ∧ lowA C.m0.length q = true) (hn : ρ.Nodup) (hin : inRows (sig ρ ν) m C.m0.length ρ C.m0)
    (hlen : ∀ y, C.m0.length ≤ (C.mem y).length ∧ (C.mem y).length - C.m0.length ≤ wd) (hm : ∀ y, ∀ mb, some mb ∈ C.mem y → ∀ cs ∈ mb.es, ∀ p ∈ cs, goodC false p) (hg : ∀ y, goodV false (C.res y))
    (hk : ∀ y, A = some y → (G y).bind K = some r → KA (renV (sig ρ ν) (C.res y)) (putNew (sig ρ ν) ν ((C.mem y).drop ρ.length) (putIn (sig ρ ν) ρ (C.mem y) m))) : pCall P io wd ν f ps m KA := by
  have H' : (F ()).bind K = some r := H
  rw [hF] at H'
  obtain ⟨y, hy, H2⟩ := Hcall H'
  subst hf
  exact .inr ⟨ρ, C.m0, C.args, C.res y, C.mem y, .inl hio, C.ok hy, (hlen y).1, (hlen y).2, hps, hq, hn, hin, hm y, hg y, hk y hy H2⟩
def IsRho : Prop := True
theorem rhoH {α β : Type} {ρ : List Nat} {F : Unit → Option α} {K : α → Option β} {r : β} (H : ((rhoM ρ).bind F).bind K = some r) : IsRho := trivial
theorem rhoS {P : Program} {f : FuncId} {ps : List PV} {io : Bool} {wd ν : Nat} {m : Mem} {KA : PV → Mem → Prop} (h : IsRho) (hk : pCall P io wd ν f ps m KA) : pCall P io wd ν f ps m KA := hk
theorem inRows_nil {σ : Nat → Nat} {m : Mem} {n : Nat} : inRows σ m n [] [] := trivial
theorem lowC_isC {n : Nat} {p : PV} (h : isC p = true) : lowC n p = true := by
  cases p with
  | fn f cs =>
    simp only [isC, List.all_eq_true] at h
    simp only [lowC, List.all_eq_true]
    intro c hc
    have := h c hc
    cases c <;> simp_all [isC1, low1]
  | _ => simp_all [isC, isC1, lowC, low1]
theorem inRows_map {α : Type} {f : α → List PV} [hf : PlainC f] {σ : Nat → Nat} {m : Mem} {n l T k : Nat} {xs : List α} {ρ : List Nat} {m0 : Mem} (hl : look m l = some ⟨T, k, xs.map f⟩) (h : inRows σ m n ρ m0) : inRows σ m n (l :: ρ) (some ⟨T, k, xs.map f⟩ :: m0) := by
  refine ⟨?_, fun cs hcs p hp => ?_, h⟩
  · rw [look_iff.1 hl]
    simp only [renMB, renEs_map]
  · obtain ⟨x, _, rfl⟩ := List.mem_map.1 hcs
    exact ⟨goodC_of (hf.h x p hp), lowC_isC (hf.h x p hp)⟩
theorem inRows_one {σ : Nat → Nat} {m : Mem} {n l T k : Nat} {cs cs' : List PV} {ρ : List Nat} {m0 : Mem} (hl : look m l = some ⟨T, k, [cs']⟩) (hc : cs' = cs.map (renC σ)) (hg : ∀ p ∈ cs, goodC false p ∧ lowC n p = true) (h : inRows σ m n ρ m0) : inRows σ m n (l :: ρ) (some ⟨T, k, [cs]⟩ :: m0) := by
  subst hc
  refine ⟨look_iff.1 hl, fun ds hds p hp => ?_, h⟩
  obtain rfl : ds = cs := by simpa using hds
  exact hg p hp
/-- A join in a mirror: a part that falls through (left) or returns (right); how what it leaves lies in the frame. -/
@[irreducible] def jn {ο α : Type} (i j : Nat) (J : Option (ο ⊕ α)) (T : ο → List PV) (M : ο → Mem) : Option (ο ⊕ α) := J
def hdC : Code → Bool
  | .region _ _ _ => true
  | .loop _ => true
  | .seq a _ => hdC a
  | .block _ c => hdC c
  | _ => false
/-- The number of the first region. -/
def idC : Code → Nat
  | .region i _ _ => i
  | .loop c => idC c
  | .seq a _ => idC a
  | .block _ c => idC c
  | _ => 0
theorem pwp_cutC {P : Program} {n0 : Nat} : ∀ (c : Code), hdC c = true → ∀ {Q : Exit → List PV → Mem → Prop} {t T : List PV} {m M : Mem}, Cuts n0 t m T M → pwp P n0 c Q T M → pwp P n0 c Q t m
  | .region i ops draw, _, Q, t, T, m, M, hc, h => by
    rcases h with h | ⟨t1, m1, h1, h2⟩
    · exact .inr ⟨T, M, hc, h⟩
    · exact .inr ⟨t1, m1, hc.trans h1, h2⟩
  | .loop c, _, Q, t, T, m, M, hc, h => by
    obtain ⟨I, n, t0, m0, h1, h2⟩ := h
    exact ⟨I, n, t0, m0, hc.trans h1, h2⟩
  | .seq a b, hd, Q, t, T, m, M, hc, h => pwp_cutC a hd hc h
  | .block i c, hd, Q, t, T, m, M, hc, h => pwp_cutC c hd hc h
theorem pwp_jn {P : Program} {n0 : Nat} {Q : Exit → List PV → Mem → Prop} {t : List PV} {m : Mem} {a b : Code} {ο α β γ : Type} {J : Option (ο ⊕ α)} {T : ο → List PV} {M : ο → Mem} {G : ο → Option β} {F : α → Option β} {K : β → Option γ} {r : γ}
    {i j : Nat} (H : ((jn i j J T M).bind (selim G F)).bind K = some r) (hd : hdC b = true) (hi : (idC a == i && idC b == j) = true)
    (h1 : ∀ K' : List PV → Mem → Prop, (∀ o t' m', (G o).bind K = some r → Cuts n0 t' m' (T o) (M o) → K' t' m') → J.bind (selim (fun o => (G o).bind K) (fun v => (F v).bind K)) = some r → pwp P n0 a (thenP K' Q) t m)
    (h2 : ∀ o, (G o).bind K = some r → pwp P n0 b Q (T o) (M o)) : pwp P n0 (.seq a b) Q t m := by
  unfold jn at H
  refine h1 (fun t m => pwp P n0 b Q t m) (fun o t' m' h hc => pwp_cutC b hd hc (h2 o h)) ?_
  cases J with
  | none => cases H
  | some x => cases x <;> exact H
theorem jnX {ο α β : Type} {n0 : Nat} {s : ο} {F : ο → Option β} {K : α → Option β} {r : β} {Kp : List PV → Mem → Prop} {T : ο → List PV} {M : ο → Mem} {t : List PV} {m : Mem} (H : (some (Sum.inl s)).bind (selim F K) = some r) (hL : ∀ o t' m', F o = some r → Cuts n0 t' m' (T o) (M o) → Kp t' m') (hc : Cuts n0 t m (T s) (M s)) : Kp t m := hL s t m H hc
def IsJn : Prop := True
theorem jnH {ο α β γ : Type} {i j : Nat} {J : Option (ο ⊕ α)} {T : ο → List PV} {M : ο → Mem} {G : (ο ⊕ α) → Option β} {K : β → Option γ} {r : γ} (H : ((jn i j J T M).bind G).bind K = some r) : IsJn := trivial
theorem jnS {P : Program} {n0 : Nat} {Q : Exit → List PV → Mem → Prop} {t : List PV} {m : Mem} {a b : Code} (h : IsJn) (hk : pwp P n0 (.seq a b) Q t m) : pwp P n0 (.seq a b) Q t m := hk
theorem thenP_thenP {K K2 : List PV → Mem → Prop} {Q : Exit → List PV → Mem → Prop} : thenP K (thenP K2 Q) = thenP K Q := by
  funext e t m
  cases e <;> rfl
theorem pwp_assoc {P : Program} {n0 : Nat} {Q : Exit → List PV → Mem → Prop} {t : List PV} {m : Mem} {a b c : Code} (h : pwp P n0 (.seq (.seq a b) c) Q t m) : pwp P n0 (.seq a (.seq b c)) Q t m := by
  have e : pwp P n0 (.seq (.seq a b) c) Q t m = pwp P n0 a (thenP (fun t m => pwp P n0 b (thenP (fun t m => pwp P n0 c Q t m) Q) t m) (thenP (fun t m => pwp P n0 c Q t m) Q)) t m := by simp only [pwp]
  rw [e, thenP_thenP] at h
  simp only [pwp]
  exact h
theorem pwp_jn2 {P : Program} {n0 : Nat} {Q : Exit → List PV → Mem → Prop} {t : List PV} {m : Mem} {a b c : Code} {ο α β γ : Type} {J : Option (ο ⊕ α)} {T : ο → List PV} {M : ο → Mem} {G : ο → Option β} {F : α → Option β} {K : β → Option γ} {r : γ}
    {i j : Nat} (H : ((jn i j J T M).bind (selim G F)).bind K = some r) (hd : hdC c = true) (hi : (idC a == i && idC c == j) = true)
    (h1 : ∀ K' : List PV → Mem → Prop, (∀ o t' m', (G o).bind K = some r → Cuts n0 t' m' (T o) (M o) → K' t' m') → J.bind (selim (fun o => (G o).bind K) (fun v => (F v).bind K)) = some r → pwp P n0 (.seq a b) (thenP K' Q) t m)
    (h2 : ∀ o, (G o).bind K = some r → pwp P n0 c Q (T o) (M o)) : pwp P n0 (.seq a (.seq b c)) Q t m := pwp_assoc (pwp_jn H hd hi h1 h2)
/-- A value that may stand for another: the nil slice reads as_ the empty list. -/
inductive SubC : PV → PV → Prop
  | r (p : PV) : SubC p p
  | nil (c : Nat) : SubC (.v (.slice none 0 c)) (.sl [])
inductive SubL : List PV → List PV → Prop
  | n : SubL [] []
  | c {p q : PV} {ps qs : List PV} (h : SubC p q) (k : SubL ps qs) : SubL (p :: ps) (q :: qs)
inductive SubV : PV → PV → Prop
  | c {p q : PV} (h : SubC p q) : SubV p q
  | ag {cs ds : List PV} (h : SubL cs ds) : SubV (.ag cs) (.ag ds)
inductive SubA : List PV → List PV → Prop
  | n : SubA [] []
  | c {p q : PV} {ps qs : List PV} (h : SubV p q) (k : SubA ps qs) : SubA (p :: ps) (q :: qs)
theorem SubC.rep {w : World} {E : Env} {p q : PV} {x : Value} (h : SubC p q) (hr : Rep w E p x) : Rep w E q x := by
  cases h with
  | r => exact hr
  | nil c =>
    cases hr with
    | c h => cases h with
      | v _ _ => exact .c (.nil none c)
theorem SubL.len {cs ds : List PV} (h : SubL cs ds) : cs.length = ds.length := by
  induction h with
  | n => rfl
  | c _ _ ih => simp [ih]
theorem SubL.get {cs ds : List PV} (h : SubL cs ds) : ∀ (j : Nat) (q : PV), ds[j]? = some q → ∃ p, cs[j]? = some p ∧ SubC p q := by
  induction h with
  | n => intro j q hq; simp at hq
  | c h k ih =>
    intro j q hq
    cases j with
    | zero => simp at hq; subst hq; exact ⟨_, by simp, h⟩
    | succ j => simpa using ih j q (by simpa using hq)
theorem SubV.rep {w : World} {E : Env} {p q : PV} {x : Value} (h : SubV p q) (hr : Rep w E p x) : Rep w E q x := by
  cases h with
  | c h => exact h.rep hr
  | ag h =>
    obtain ⟨vs, rfl, hl, h1, hc⟩ := Rep.ag_inv hr
    exact .ag _ vs (by rw [hl, h.len]) h1 fun j p y hp hy => by
      obtain ⟨p', hp', hs⟩ := h.get j p hp
      exact hs.rep (hc j p' y hp' hy)
theorem SubA.len {cs ds : List PV} (h : SubA cs ds) : cs.length = ds.length := by
  induction h with
  | n => rfl
  | c _ _ ih => simp [ih]
theorem SubA.get {cs ds : List PV} (h : SubA cs ds) : ∀ (j : Nat) (q : PV), ds[j]? = some q → ∃ p, cs[j]? = some p ∧ SubV p q := by
  induction h with
  | n => intro j q hq; simp at hq
  | c h k ih =>
    intro j q hq
    cases j with
    | zero => simp at hq; subst hq; exact ⟨_, by simp, h⟩
    | succ j => simpa using ih j q (by simpa using hq)
theorem CallM.weak {P : Program} {f : FuncId} {ps qs : List PV} {m0 : Mem} {r : PV} {m1 : Mem} (h : CallM P f qs m0 r m1) (hs : SubA ps qs) : CallM P f ps m0 r m1 := by
  intro S β w vs hok hl ha
  refine h S β w vs hok (by rw [hl, hs.len]) fun i q hq => ?_
  obtain ⟨p, hp, hv⟩ := hs.get i q hq
  obtain ⟨x, hx, hr⟩ := ha i p hp
  exact ⟨x, hx, hv.rep hr⟩
/-- As isC, own rows too. -/
def isCM : PV → Bool
  | .ms _ => true
  | p => isC p
def isCAM : PV → Bool
  | .ag cs => cs.all isCM
  | .tu _ => false
  | p => isCM p
theorem goodM_of {p : PV} (h : isCM p = true) : goodC false p := by
  cases p with
  | ms l => simp [goodC]
  | _ => exact goodC_of h
theorem gV_agM {cs : List PV} (h : cs.all isCM = true) : goodV false (.ag cs) := fun c hc => goodM_of (List.all_eq_true.1 h c hc)
theorem gV_tuM {ps : List PV} (h : ps.all isCAM = true) : goodV false (.tu ps) := by
  intro c hc
  have := List.all_eq_true.1 h c hc
  cases c with
  | ag cs => exact fun d hd => goodM_of (List.all_eq_true.1 this d hd)
  | tu vs => simp [isCAM] at this
  | fn f cs => exact goodC_of (c := .fn f cs) this
  | _ => simp [goodA, goodC]
theorem cutC_nilsl0 {m m' : Mem} {ρ : Nat → Option Nat} {c : Nat} : CutC ρ m m' (.v (.slice none 0 c)) (.sl []) := .nilsl c
theorem rowsOk_new0 {m m' : Mem} {rs rr : List (Option Nat)} {T k : Nat} {mm : Mem} (hk : decide (0 < k) = true) (h : rowsOk rs m m' rr mm) : rowsOk rs m m' (none :: rr) (some ⟨T, k, []⟩ :: mm) := ⟨⟨rfl, of_decide_eq_true hk⟩, h⟩
theorem lowB_0 {i : Nat} {rs : List (Option Nat)} {m : Mem} : lowB 0 i rs m = true := rfl
theorem lowB_c {n i : Nat} {rs : List (Option Nat)} {mb : MB} {m : Mem} (h : lowB n (i + 1) rs m = true) : lowB (n + 1) i (some i :: rs) (some mb :: m) = true := by simp [lowB, h]
theorem lowB_d {n i : Nat} {rs : List (Option Nat)} {m : Mem} (h : lowB n (i + 1) rs m = true) : lowB (n + 1) i (none :: rs) (none :: m) = true := by simpa [lowB] using h
theorem cutL_0 {n0 : Nat} {t t' : List PV} {m : Mem} (hl : lowB n0 0 [] [] = true) (hT : cutT (rho []) m [] t t') (hM : rowsOk [] m [] [] []) (hi : injB [] = true) : Cuts n0 t m t' [] := cut_mk hT hM hi hl
theorem cutL_1 {n0 : Nat} {t t' : List PV} {m : Mem} {a : Option MB} (r0 : Option Nat) (hl : lowB n0 0 [r0] [a] = true) (hT : cutT (rho [r0]) m [a] t t') (hM : rowsOk [r0] m [a] [r0] [a]) (hi : injB [r0] = true) : Cuts n0 t m t' [a] := cut_mk hT hM hi hl
theorem cutL_2 {n0 : Nat} {t t' : List PV} {m : Mem} {a b : Option MB} (r0 r1 : Option Nat) (hl : lowB n0 0 [r0, r1] [a, b] = true) (hT : cutT (rho [r0, r1]) m [a, b] t t') (hM : rowsOk [r0, r1] m [a, b] [r0, r1] [a, b]) (hi : injB [r0, r1] = true) : Cuts n0 t m t' [a, b] := cut_mk hT hM hi hl
theorem cutL_3 {n0 : Nat} {t t' : List PV} {m : Mem} {a b c : Option MB} (r0 r1 r2 : Option Nat) (hl : lowB n0 0 [r0, r1, r2] [a, b, c] = true) (hT : cutT (rho [r0, r1, r2]) m [a, b, c] t t') (hM : rowsOk [r0, r1, r2] m [a, b, c] [r0, r1, r2] [a, b, c]) (hi : injB [r0, r1, r2] = true) : Cuts n0 t m t' [a, b, c] := cut_mk hT hM hi hl
theorem cutL_4 {n0 : Nat} {t t' : List PV} {m : Mem} {a b c d : Option MB} (r0 r1 r2 r3 : Option Nat) (hl : lowB n0 0 [r0, r1, r2, r3] [a, b, c, d] = true) (hT : cutT (rho [r0, r1, r2, r3]) m [a, b, c, d] t t') (hM : rowsOk [r0, r1, r2, r3] m [a, b, c, d] [r0, r1, r2, r3] [a, b, c, d]) (hi : injB [r0, r1, r2, r3] = true) : Cuts n0 t m t' [a, b, c, d] := cut_mk hT hM hi hl
theorem cutL_5 {n0 : Nat} {t t' : List PV} {m : Mem} {a b c d e : Option MB} (r0 r1 r2 r3 r4 : Option Nat) (hl : lowB n0 0 [r0, r1, r2, r3, r4] [a, b, c, d, e] = true) (hT : cutT (rho [r0, r1, r2, r3, r4]) m [a, b, c, d, e] t t') (hM : rowsOk [r0, r1, r2, r3, r4] m [a, b, c, d, e] [r0, r1, r2, r3, r4] [a, b, c, d, e]) (hi : injB [r0, r1, r2, r3, r4] = true) : Cuts n0 t m t' [a, b, c, d, e] := cut_mk hT hM hi hl
theorem cutL_6 {n0 : Nat} {t t' : List PV} {m : Mem} {a b c d e f : Option MB} (r0 r1 r2 r3 r4 r5 : Option Nat) (hl : lowB n0 0 [r0, r1, r2, r3, r4, r5] [a, b, c, d, e, f] = true) (hT : cutT (rho [r0, r1, r2, r3, r4, r5]) m [a, b, c, d, e, f] t t') (hM : rowsOk [r0, r1, r2, r3, r4, r5] m [a, b, c, d, e, f] [r0, r1, r2, r3, r4, r5] [a, b, c, d, e, f]) (hi : injB [r0, r1, r2, r3, r4, r5] = true) : Cuts n0 t m t' [a, b, c, d, e, f] := cut_mk hT hM hi hl
theorem cutL_7 {n0 : Nat} {t t' : List PV} {m : Mem} {a b c d e f g : Option MB} (r0 r1 r2 r3 r4 r5 r6 : Option Nat) (hl : lowB n0 0 [r0, r1, r2, r3, r4, r5, r6] [a, b, c, d, e, f, g] = true) (hT : cutT (rho [r0, r1, r2, r3, r4, r5, r6]) m [a, b, c, d, e, f, g] t t') (hM : rowsOk [r0, r1, r2, r3, r4, r5, r6] m [a, b, c, d, e, f, g] [r0, r1, r2, r3, r4, r5, r6] [a, b, c, d, e, f, g]) (hi : injB [r0, r1, r2, r3, r4, r5, r6] = true) : Cuts n0 t m t' [a, b, c, d, e, f, g] := cut_mk hT hM hi hl
theorem cutL_8 {n0 : Nat} {t t' : List PV} {m : Mem} {a b c d e f g h : Option MB} (r0 r1 r2 r3 r4 r5 r6 r7 : Option Nat) (hl : lowB n0 0 [r0, r1, r2, r3, r4, r5, r6, r7] [a, b, c, d, e, f, g, h] = true) (hT : cutT (rho [r0, r1, r2, r3, r4, r5, r6, r7]) m [a, b, c, d, e, f, g, h] t t') (hM : rowsOk [r0, r1, r2, r3, r4, r5, r6, r7] m [a, b, c, d, e, f, g, h] [r0, r1, r2, r3, r4, r5, r6, r7] [a, b, c, d, e, f, g, h]) (hi : injB [r0, r1, r2, r3, r4, r5, r6, r7] = true) : Cuts n0 t m t' [a, b, c, d, e, f, g, h] := cut_mk hT hM hi hl
theorem cutL_9 {n0 : Nat} {t t' : List PV} {m : Mem} {a b c d e f g h i : Option MB} (r0 r1 r2 r3 r4 r5 r6 r7 r8 : Option Nat) (hl : lowB n0 0 [r0, r1, r2, r3, r4, r5, r6, r7, r8] [a, b, c, d, e, f, g, h, i] = true) (hT : cutT (rho [r0, r1, r2, r3, r4, r5, r6, r7, r8]) m [a, b, c, d, e, f, g, h, i] t t') (hM : rowsOk [r0, r1, r2, r3, r4, r5, r6, r7, r8] m [a, b, c, d, e, f, g, h, i] [r0, r1, r2, r3, r4, r5, r6, r7, r8] [a, b, c, d, e, f, g, h, i]) (hi : injB [r0, r1, r2, r3, r4, r5, r6, r7, r8] = true) : Cuts n0 t m t' [a, b, c, d, e, f, g, h, i] := cut_mk hT hM hi hl
theorem cutL_10 {n0 : Nat} {t t' : List PV} {m : Mem} {a b c d e f g h i j : Option MB} (r0 r1 r2 r3 r4 r5 r6 r7 r8 r9 : Option Nat) (hl : lowB n0 0 [r0, r1, r2, r3, r4, r5, r6, r7, r8, r9] [a, b, c, d, e, f, g, h, i, j] = true) (hT : cutT (rho [r0, r1, r2, r3, r4, r5, r6, r7, r8, r9]) m [a, b, c, d, e, f, g, h, i, j] t t') (hM : rowsOk [r0, r1, r2, r3, r4, r5, r6, r7, r8, r9] m [a, b, c, d, e, f, g, h, i, j] [r0, r1, r2, r3, r4, r5, r6, r7, r8, r9] [a, b, c, d, e, f, g, h, i, j]) (hi : injB [r0, r1, r2, r3, r4, r5, r6, r7, r8, r9] = true) : Cuts n0 t m t' [a, b, c, d, e, f, g, h, i, j] := cut_mk hT hM hi hl
theorem cutL_11 {n0 : Nat} {t t' : List PV} {m : Mem} {a b c d e f g h i j k : Option MB} (r0 r1 r2 r3 r4 r5 r6 r7 r8 r9 r10 : Option Nat) (hl : lowB n0 0 [r0, r1, r2, r3, r4, r5, r6, r7, r8, r9, r10] [a, b, c, d, e, f, g, h, i, j, k] = true) (hT : cutT (rho [r0, r1, r2, r3, r4, r5, r6, r7, r8, r9, r10]) m [a, b, c, d, e, f, g, h, i, j, k] t t') (hM : rowsOk [r0, r1, r2, r3, r4, r5, r6, r7, r8, r9, r10] m [a, b, c, d, e, f, g, h, i, j, k] [r0, r1, r2, r3, r4, r5, r6, r7, r8, r9, r10] [a, b, c, d, e, f, g, h, i, j, k]) (hi : injB [r0, r1, r2, r3, r4, r5, r6, r7, r8, r9, r10] = true) : Cuts n0 t m t' [a, b, c, d, e, f, g, h, i, j, k] := cut_mk hT hM hi hl
theorem cutL_12 {n0 : Nat} {t t' : List PV} {m : Mem} {a b c d e f g h i j k l : Option MB} (r0 r1 r2 r3 r4 r5 r6 r7 r8 r9 r10 r11 : Option Nat) (hl : lowB n0 0 [r0, r1, r2, r3, r4, r5, r6, r7, r8, r9, r10, r11] [a, b, c, d, e, f, g, h, i, j, k, l] = true) (hT : cutT (rho [r0, r1, r2, r3, r4, r5, r6, r7, r8, r9, r10, r11]) m [a, b, c, d, e, f, g, h, i, j, k, l] t t') (hM : rowsOk [r0, r1, r2, r3, r4, r5, r6, r7, r8, r9, r10, r11] m [a, b, c, d, e, f, g, h, i, j, k, l] [r0, r1, r2, r3, r4, r5, r6, r7, r8, r9, r10, r11] [a, b, c, d, e, f, g, h, i, j, k, l]) (hi : injB [r0, r1, r2, r3, r4, r5, r6, r7, r8, r9, r10, r11] = true) : Cuts n0 t m t' [a, b, c, d, e, f, g, h, i, j, k, l] := cut_mk hT hM hi hl
theorem goodD_cells {b : Bool} {T k : Nat} {es : List (List PV)} (h : ∀ cs ∈ es, ∀ p ∈ cs, goodC b p) : ∀ mb, some mb ∈ ([some ⟨T, k, es⟩] : Mem) → ∀ cs ∈ mb.es, ∀ p ∈ cs, goodC b p := by
  intro mb hm
  simp only [List.mem_singleton, Option.some.injEq] at hm
  subst hm
  exact h
theorem hm_none {m : Mem} {b : Bool} (h2 : ∀ mb, some mb ∈ m → ∀ cs ∈ mb.es, ∀ p ∈ cs, goodC b p) : ∀ mb, some mb ∈ ((none : Option MB) :: m) → ∀ cs ∈ mb.es, ∀ p ∈ cs, goodC b p := by
  intro mb h
  rcases List.mem_cons.1 h with h | h
  · cases h
  · exact h2 mb h
theorem hm_e {T k : Nat} {b : Bool} : ∀ mb, some mb ∈ ([some ⟨T, k, []⟩] : Mem) → ∀ cs ∈ mb.es, ∀ p ∈ cs, goodC b p := goodD_cells (by simp)
theorem Hnone {α β : Type} {K : α → Option β} {r : β} (h : (none : Option α).bind K = some r) : False := by cases h

theorem wk2 {p : Prop} (h : p := by
  (simp only [List.length_cons, List.length_nil, Nat.reduceAdd, Nat.reduceSub, List.replicate_succ, List.replicate_zero, List.cons_append, List.nil_append, go_sem]);
  repeat' (first
    | ((with_reducible refine jnS (jnH H) ?_); (first | ((refine pwp_jn2 H ?_ ?_ (fun K_ hL H => ?_) (fun o_ H => ?_)); (focus (decide +kernel)); (focus (decide +kernel))) | ((refine pwp_jn H ?_ ?_ (fun K_ hL H => ?_) (fun o_ H => ?_)); (focus (decide +kernel)); (focus (decide +kernel)))))
    | ((with_reducible refine rhoS (rhoH H) ?_); (refine call_io H rfl rfl rfl ?_ ?_ ?_ ?_ ?_ ?_ ?_ ?_); (focus (first | rfl | (simp only [CT.args, List.map_cons, List.map_nil, renA, renC, ren1, sig_z, sig_s, sig_n]; done))); (focus (simp [CT.args, CT.m0, goodA, goodC, lowA, lowC, low1, isR])); (focus (first | exact List.nodup_nil | decide)); (focus ((simp only [CT.m0]); (repeat' (first | exact inRows_nil | (refine inRows_map (by rfl) ?_) | (refine inRows_one (by rfl) (by rfl) (by simp [goodC, lowC, low1, isR]) ?_))))); (focus (intro y_; simp [CT.mem, CT.m0])); (focus (intro y_; (simp only [CT.mem]); (repeat (first | exact hm_nil | exact hm_one | exact hm_oneT | (refine hm_c hm_one ?_) | (refine hm_c (goodD_cells (by simp [goodC, isR])) ?_) | exact goodD_cells (by simp [goodC, isR]) | (refine hm_none ?_))))); (focus (intro y_; (simp [CT.res, goodV, goodA, goodC, isR]))); (clear H; intro y_ hy H; simp only [CT.res, CT.mem, putIn, List.drop_succ_cons, List.drop_zero, Option.map_none, go_sem, Nat.reduceAdd, Nat.reduceSub, Nat.reduceMul, Nat.reduceLT, Nat.reduceLeDiff, Nat.reduceEqDiff, if_true, eq_self]))
    | ((with_reducible refine pwp_frzL H ?_ ?_); (focus ((with_reducible refine cutS ?_); (first | (with_reducible apply cutL_0) | (with_reducible apply cutL_1) | (with_reducible apply cutL_2) | (with_reducible apply cutL_3) | (with_reducible apply cutL_4) | (with_reducible apply cutL_5) | (with_reducible apply cutL_6) | (with_reducible apply cutL_7) | (with_reducible apply cutL_8) | (with_reducible apply cutL_9) | (with_reducible apply cutL_10) | (with_reducible apply cutL_11) | (with_reducible apply cutL_12)); (repeat' (first       | (exact lowB_0) | (refine lowB_c ?_) | (refine lowB_d ?_) | (with_reducible refine cutT_un ?_)       | (with_reducible refine cutT_c ?_ ?_)       | (with_reducible exact cutT_nil)       | (with_reducible exact cutV_c rfl)       | exact cutV_c rfl       | (with_reducible exact cutL_nil)       | (with_reducible refine cutL_c ?_ ?_)       | exact .c _ rfl       | exact .un _       | exact cutC_ms rfl rfl       | exact cutC_be rfl rfl       | exact cutC_nilsl0 | exact cutC_nilsl       | exact cutC_nilms rfl rfl       | (refine cutC_fms rfl ?_)       | (refine cutC_fbe rfl rfl ?_)       | (with_reducible refine cutV_ag ?_)       | (with_reducible refine cutV_tu ?_)       | (with_reducible exact cutAs_nil)       | (with_reducible refine cutAs_c ?_ ?_)       | (with_reducible refine cutA_ag ?_)       | (with_reducible refine cutA_k ?_)       | (with_reducible refine cutV_k ?_)       | (with_reducible exact rowsOk_nil)       | (refine rowsOk_live rfl ?_ ?_)       | (refine rowsOk_new0 rfl ?_) | (refine rowsOk_new rfl ?_)       | (with_reducible refine rowsOk_dead ?_)       | (with_reducible refine cutB_one ?_)       | (with_reducible exact cutB_nil)       | (with_reducible refine cutB_two ?_)       | (with_reducible exact cutE_n)       | (with_reducible refine cutE_c ?_ ?_)       | (with_reducible exact cutB_same)       | (with_reducible refine cutB_set ?_)       | exact cutB_same       | (refine cutB_set ?_)       | (refine cutB_rep ?_)       | (refine cutB_snoc ?_)       | (simp only [cInt, cStr, cBool, cLabel, cParcel, cZone, cRate, cLeg, cNetwork, cTrip, cBooking, cScan, cOrder, cWorld, cLine, cAct, cOffice, cItem, cChute, cInlet, cCentre, cThing, cBelief])       | (with_unfolding_all rfl))); (all_goals first | (exact dropped_of rfl) | exact none))); (clear H; intro z_ H))
    | ((with_reducible refine pwp_frz H ?_ ?_); (focus ((with_reducible refine cutS ?_); (first | (with_reducible apply cutL_0) | (with_reducible apply cutL_1) | (with_reducible apply cutL_2) | (with_reducible apply cutL_3) | (with_reducible apply cutL_4) | (with_reducible apply cutL_5) | (with_reducible apply cutL_6) | (with_reducible apply cutL_7) | (with_reducible apply cutL_8) | (with_reducible apply cutL_9) | (with_reducible apply cutL_10) | (with_reducible apply cutL_11) | (with_reducible apply cutL_12)); (repeat' (first       | (exact lowB_0) | (refine lowB_c ?_) | (refine lowB_d ?_) | (with_reducible refine cutT_un ?_)       | (with_reducible refine cutT_c ?_ ?_)       | (with_reducible exact cutT_nil)       | (with_reducible exact cutV_c rfl)       | exact cutV_c rfl       | (with_reducible exact cutL_nil)       | (with_reducible refine cutL_c ?_ ?_)       | exact .c _ rfl       | exact .un _       | exact cutC_ms rfl rfl       | exact cutC_be rfl rfl       | exact cutC_nilsl0 | exact cutC_nilsl       | exact cutC_nilms rfl rfl       | (refine cutC_fms rfl ?_)       | (refine cutC_fbe rfl rfl ?_)       | (with_reducible refine cutV_ag ?_)       | (with_reducible refine cutV_tu ?_)       | (with_reducible exact cutAs_nil)       | (with_reducible refine cutAs_c ?_ ?_)       | (with_reducible refine cutA_ag ?_)       | (with_reducible refine cutA_k ?_)       | (with_reducible refine cutV_k ?_)       | (with_reducible exact rowsOk_nil)       | (refine rowsOk_live rfl ?_ ?_)       | (refine rowsOk_new0 rfl ?_) | (refine rowsOk_new rfl ?_)       | (with_reducible refine rowsOk_dead ?_)       | (with_reducible refine cutB_one ?_)       | (with_reducible exact cutB_nil)       | (with_reducible refine cutB_two ?_)       | (with_reducible exact cutE_n)       | (with_reducible refine cutE_c ?_ ?_)       | (with_reducible exact cutB_same)       | (with_reducible refine cutB_set ?_)       | exact cutB_same       | (refine cutB_set ?_)       | (refine cutB_rep ?_)       | (refine cutB_snoc ?_)       | (simp only [cInt, cStr, cBool, cLabel, cParcel, cZone, cRate, cLeg, cNetwork, cTrip, cBooking, cScan, cOrder, cWorld, cLine, cAct, cOffice, cItem, cChute, cInlet, cCentre, cThing, cBelief])       | (with_unfolding_all rfl))); (all_goals first | (exact dropped_of rfl) | exact none))); (clear H; intro H))
    | ((with_reducible refine pwp_seq ?_); intro K_ hK)
    | ((with_reducible refine pwp_block ?_))
    | ((with_reducible refine pwp_region ?_); simp only [go_sem, Nat.reduceAdd, Nat.reduceSub, Nat.reduceMul, Nat.reduceLT, Nat.reduceLeDiff, Nat.reduceEqDiff, if_true, eq_self])
    | ((with_reducible refine pwp_skip ?_); simp only [thenP_normal, blockP_normal])
    | ((with_reducible refine pwp_exit ?_); (simp only [thenP_exit, blockP_exit, thenP_normal, blockP_normal, if_true, if_false, eq_self, Nat.reduceEqDiff, Nat.one_ne_zero, Nat.zero_ne_one]); (try simp only [bexR, bsr, bsl] at H))
    | ((with_reducible refine pwp_ret ?_); (try simp only [thenP_ret, blockP_ret]))
    | ((with_reducible refine hQ _ _ ?_); (try simp only [bexR, bsr, bsl] at H); replace H := Hret H; subst H; simp only [Fin, resP, oneP, go_sem, Nat.reduceAdd, Nat.reduceSub, Nat.reduceMul, Nat.reduceLT, Nat.reduceLeDiff, Nat.reduceEqDiff, if_true, eq_self]; (with_reducible refine cutS ?_); (first | (with_reducible apply cutL_0) | (with_reducible apply cutL_1) | (with_reducible apply cutL_2) | (with_reducible apply cutL_3) | (with_reducible apply cutL_4) | (with_reducible apply cutL_5) | (with_reducible apply cutL_6) | (with_reducible apply cutL_7) | (with_reducible apply cutL_8) | (with_reducible apply cutL_9) | (with_reducible apply cutL_10) | (with_reducible apply cutL_11) | (with_reducible apply cutL_12)); (repeat' (first       | (exact lowB_0) | (refine lowB_c ?_) | (refine lowB_d ?_) | (with_reducible refine cutT_un ?_)       | (with_reducible refine cutT_c ?_ ?_)       | (with_reducible exact cutT_nil)       | (with_reducible exact cutV_c rfl)       | exact cutV_c rfl       | (with_reducible exact cutL_nil)       | (with_reducible refine cutL_c ?_ ?_)       | exact .c _ rfl       | exact .un _       | exact cutC_ms rfl rfl       | exact cutC_be rfl rfl       | exact cutC_nilsl0 | exact cutC_nilsl       | exact cutC_nilms rfl rfl       | (refine cutC_fms rfl ?_)       | (refine cutC_fbe rfl rfl ?_)       | (with_reducible refine cutV_ag ?_)       | (with_reducible refine cutV_tu ?_)       | (with_reducible exact cutAs_nil)       | (with_reducible refine cutAs_c ?_ ?_)       | (with_reducible refine cutA_ag ?_)       | (with_reducible refine cutA_k ?_)       | (with_reducible refine cutV_k ?_)       | (with_reducible exact rowsOk_nil)       | (refine rowsOk_live rfl ?_ ?_)       | (refine rowsOk_new0 rfl ?_) | (refine rowsOk_new rfl ?_)       | (with_reducible refine rowsOk_dead ?_)       | (with_reducible refine cutB_one ?_)       | (with_reducible exact cutB_nil)       | (with_reducible refine cutB_two ?_)       | (with_reducible exact cutE_n)       | (with_reducible refine cutE_c ?_ ?_)       | (with_reducible exact cutB_same)       | (with_reducible refine cutB_set ?_)       | exact cutB_same       | (refine cutB_set ?_)       | (refine cutB_rep ?_)       | (refine cutB_snoc ?_)       | (simp only [cInt, cStr, cBool, cLabel, cParcel, cZone, cRate, cLeg, cNetwork, cTrip, cBooking, cScan, cOrder, cWorld, cLine, cAct, cOffice, cItem, cChute, cInlet, cCentre, cThing, cBelief])       | (with_unfolding_all rfl))); (all_goals first | (exact dropped_of rfl) | exact none))
    | ((with_reducible refine hQn _ _ ?_); (try simp only [bexR, bsr, bsl] at H); replace H := Hret H; subst H; simp only [Fin, resP, oneP, go_sem, Nat.reduceAdd, Nat.reduceSub, Nat.reduceMul, Nat.reduceLT, Nat.reduceLeDiff, Nat.reduceEqDiff, if_true, eq_self]; (with_reducible refine cutS ?_); (first | (with_reducible apply cutL_0) | (with_reducible apply cutL_1) | (with_reducible apply cutL_2) | (with_reducible apply cutL_3) | (with_reducible apply cutL_4) | (with_reducible apply cutL_5) | (with_reducible apply cutL_6) | (with_reducible apply cutL_7) | (with_reducible apply cutL_8) | (with_reducible apply cutL_9) | (with_reducible apply cutL_10) | (with_reducible apply cutL_11) | (with_reducible apply cutL_12)); (repeat' (first       | (exact lowB_0) | (refine lowB_c ?_) | (refine lowB_d ?_) | (with_reducible refine cutT_un ?_)       | (with_reducible refine cutT_c ?_ ?_)       | (with_reducible exact cutT_nil)       | (with_reducible exact cutV_c rfl)       | exact cutV_c rfl       | (with_reducible exact cutL_nil)       | (with_reducible refine cutL_c ?_ ?_)       | exact .c _ rfl       | exact .un _       | exact cutC_ms rfl rfl       | exact cutC_be rfl rfl       | exact cutC_nilsl0 | exact cutC_nilsl       | exact cutC_nilms rfl rfl       | (refine cutC_fms rfl ?_)       | (refine cutC_fbe rfl rfl ?_)       | (with_reducible refine cutV_ag ?_)       | (with_reducible refine cutV_tu ?_)       | (with_reducible exact cutAs_nil)       | (with_reducible refine cutAs_c ?_ ?_)       | (with_reducible refine cutA_ag ?_)       | (with_reducible refine cutA_k ?_)       | (with_reducible refine cutV_k ?_)       | (with_reducible exact rowsOk_nil)       | (refine rowsOk_live rfl ?_ ?_)       | (refine rowsOk_new0 rfl ?_) | (refine rowsOk_new rfl ?_)       | (with_reducible refine rowsOk_dead ?_)       | (with_reducible refine cutB_one ?_)       | (with_reducible exact cutB_nil)       | (with_reducible refine cutB_two ?_)       | (with_reducible exact cutE_n)       | (with_reducible refine cutE_c ?_ ?_)       | (with_reducible exact cutB_same)       | (with_reducible refine cutB_set ?_)       | exact cutB_same       | (refine cutB_set ?_)       | (refine cutB_rep ?_)       | (refine cutB_snoc ?_)       | (simp only [cInt, cStr, cBool, cLabel, cParcel, cZone, cRate, cLeg, cNetwork, cTrip, cBooking, cScan, cOrder, cWorld, cLine, cAct, cOffice, cItem, cChute, cInlet, cCentre, cThing, cBelief])       | (with_unfolding_all rfl))); (all_goals first | (exact dropped_of rfl) | exact none))
    | ((with_reducible refine gateS ?_); (refine gate2_intro (fun hg => Hc1k H hg ?_) (fun hg => Hc2k H hg ?_)) <;> (clear H; intro H; simp only [go_sem, Nat.reduceAdd, Nat.reduceSub, Nat.reduceMul, Nat.reduceLT, Nat.reduceLeDiff, Nat.reduceEqDiff, if_true, eq_self]))
    | ((with_reducible refine pwp_condE ?_); simp only [evP_tmp, getD_z, getD_s, evP_bool]; (first | (with_reducible refine condP_tt ?_) | (with_reducible refine condP_ff ?_) | ((refine condP_intro (fun hg => Hc1k H hg ?_) (fun hg => Hc2k H hg ?_)) <;> (clear H; intro H))))
    | ((with_reducible refine idxS ?_); replace H := Hcall H; obtain ⟨y_, hy, H⟩ := H; (with_reducible apply idx_sl hy); (focus (first | (simp only [go_sem]; done) | (simp only [go_sem]; decide))); (focus (first | rfl | (simp only [go_sem]; rfl))); simp only [go_sem, Nat.reduceAdd, Nat.reduceSub, Nat.reduceMul, Nat.reduceLT, Nat.reduceLeDiff, Nat.reduceEqDiff, if_true, eq_self])
    | ((with_reducible refine idxM ?_); replace H := Hcall H; obtain ⟨y_, hy, H⟩ := H; (refine idx_msb hy (by rfl) (by first | (simp only [go_sem]; done) | (simp only [go_sem]; decide)) (by first | rfl | (simp only [go_sem]; rfl)) ?_); simp only [go_sem, Nat.reduceAdd, Nat.reduceSub, Nat.reduceMul, Nat.reduceLT, Nat.reduceLeDiff, Nat.reduceEqDiff, if_true, eq_self])
    | ((with_reducible refine idxB ?_); replace H := Hcall H; obtain ⟨y_, hy, H⟩ := H; (with_reducible apply idx_str hy); (focus (simp only [go_sem])); simp only [go_sem, Nat.reduceAdd, Nat.reduceSub, Nat.reduceMul, Nat.reduceLT, Nat.reduceLeDiff, Nat.reduceEqDiff, if_true, eq_self])
    | ((with_reducible refine callS ?_); replace H := Hcall H; obtain ⟨y_, hy, H⟩ := H; (first | ((with_reducible apply call_deep); (focus (exact CT.ok hy)); (focus (simp [isCA, isC, isC1])); (focus (exact Nat.le_of_ble_eq_true rfl)); (focus (first | exact hm_nil | (repeat (first | exact hm_one | exact hm_oneT | exact hm_e | (refine hm_c hm_one ?_) | (refine hm_c hm_oneT ?_) | (refine hm_c hm_e ?_) | (refine hm_none ?_))))); (focus (first | exact gV_ag rfl | exact gV_tu rfl | exact gV_agM rfl | exact gV_tuM rfl | exact (fun h => (by cases h)) | (simp [CT.res, goodV, goodA, goodC]))); (simp only [CT.res, CT.mem, go_sem, Nat.reduceAdd, Nat.reduceSub, Nat.reduceMul, Nat.reduceLT, Nat.reduceLeDiff, Nat.reduceEqDiff, if_true, eq_self])) | ((with_reducible apply call_deep); (focus ((refine CallM.weak (CT.ok hy) ?_); (repeat' (first | exact SubA.n | (refine SubA.c ?_ ?_) | exact SubV.c (SubC.r _) | (refine SubV.ag ?_) | exact SubL.n | (refine SubL.c ?_ ?_) | exact SubC.r _ | exact SubC.nil _)))); (focus (simp [isCA, isC, isC1])); (focus (exact Nat.le_of_ble_eq_true rfl)); (focus (first | exact hm_nil | (repeat (first | exact hm_one | exact hm_oneT | exact hm_e | (refine hm_c hm_one ?_) | (refine hm_c hm_oneT ?_) | (refine hm_c hm_e ?_) | (refine hm_none ?_))))); (focus (first | exact gV_ag rfl | exact gV_tu rfl | exact gV_agM rfl | exact gV_tuM rfl | exact (fun h => (by cases h)) | (simp [CT.res, goodV, goodA, goodC]))); (simp only [CT.res, CT.mem, go_sem, Nat.reduceAdd, Nat.reduceSub, Nat.reduceMul, Nat.reduceLT, Nat.reduceLeDiff, Nat.reduceEqDiff, if_true, eq_self])) | ((with_reducible apply call_flat); (focus (first | (simp only [snapA, snapV, snapC, snapL, live_look, look_z, look_s, rowQ_map, drop_mp, take_mp, List.forall_mem_nil, true_and, and_true]; (first | exact CT.ok hy | (simp only [all_nil, all_cons, isC, isC1, true_and, and_true]; exact CT.ok hy))) | (simp only [snapA, snapV, snapC, snapL, live_look, look_z, look_s, rowQ_map, drop_mp, take_mp, List.forall_mem_nil, true_and, and_true]; (first | ((refine CallM.weak (CT.ok hy) ?_); (repeat' (first | exact SubA.n | (refine SubA.c ?_ ?_) | exact SubV.c (SubC.r _) | (refine SubV.ag ?_) | exact SubL.n | (refine SubL.c ?_ ?_) | exact SubC.r _ | exact SubC.nil _))) | (simp only [all_nil, all_cons, isC, isC1, true_and, and_true]; ((refine CallM.weak (CT.ok hy) ?_); (repeat' (first | exact SubA.n | (refine SubA.c ?_ ?_) | exact SubV.c (SubC.r _) | (refine SubV.ag ?_) | exact SubL.n | (refine SubL.c ?_ ?_) | exact SubC.r _ | exact SubC.nil _)))))))); (focus (exact Nat.le_of_ble_eq_true rfl)); (focus (first | exact hm_nil | (repeat (first | exact hm_one | exact hm_oneT | exact hm_e | (refine hm_c hm_one ?_) | (refine hm_c hm_oneT ?_) | (refine hm_c hm_e ?_) | (refine hm_none ?_))))); (focus (first | exact gV_agF rfl | exact (fun _ => rfl) | (simp [CT.res, goodV, goodA, goodC, isF]))); (simp only [CT.res, CT.mem, go_sem, Nat.reduceAdd, Nat.reduceSub, Nat.reduceMul, Nat.reduceLT, Nat.reduceLeDiff, Nat.reduceEqDiff, if_true, eq_self]))))
    | ((with_reducible refine slcS ?_); replace H := Hchk H; obtain ⟨hc, H⟩ := H; (first | ((with_reducible apply slice_sl hc); (focus rfl); (focus rfl); (focus (first | (simp only [go_sem]; done) | (simp only [go_sem]; decide))); (focus (first | rfl | (intro x_; rfl))); simp only [go_sem, Nat.reduceAdd, Nat.reduceSub, Nat.reduceMul, Nat.reduceLT, Nat.reduceLeDiff, Nat.reduceEqDiff, if_true, eq_self]) | ((refine slice_msb hc (by rfl) (by rfl) (by rfl) (by first | (simp only [go_sem]; done) | (simp only [go_sem]; decide)) (by first | rfl | (simp only [go_sem]; rfl)) ?_); simp only [go_sem, Nat.reduceAdd, Nat.reduceSub, Nat.reduceMul, Nat.reduceLT, Nat.reduceLeDiff, Nat.reduceEqDiff, if_true, eq_self]) | ((with_reducible apply slice_str hc); (focus rfl); (focus rfl); (focus (simp only [go_sem])); simp only [go_sem, Nat.reduceAdd, Nat.reduceSub, Nat.reduceMul, Nat.reduceLT, Nat.reduceLeDiff, Nat.reduceEqDiff, if_true, eq_self])))
    | ((with_reducible refine appS ?_); replace H := Hchk H; obtain ⟨hc, H⟩ := H; (first | (refine app_msb hc (by first | (simp only [go_sem]; done) | (simp only [go_sem]; rfl)) (by first | (simp only [go_sem]; done) | (simp only [go_sem]; rfl)) (by first | (simp only [go_sem]; done) | (simp only [go_sem]; rfl)) (by first | (simp only [go_sem]; done) | (simp only [go_sem]; rfl)) (by rfl) (by first | rfl | exact src_ss' (by rfl) (by rfl) (by rfl)) rfl rfl (by intro x_; rfl) rfl ?_) | (refine app_nlb hc (by first | (simp only [go_sem]; done) | (simp only [go_sem]; rfl)) (by first | (simp only [go_sem]; done) | (simp only [go_sem]; rfl)) (by first | (simp only [go_sem]; done) | (simp only [go_sem]; rfl)) (by first | (simp only [go_sem]; done) | (simp only [go_sem]; rfl)) (by first | rfl | exact src_ss' (by rfl) (by rfl) (by rfl)) rfl rfl (by intro x_; rfl) ?_)); simp only [go_sem, Nat.reduceAdd, Nat.reduceSub, Nat.reduceMul, Nat.reduceLT, Nat.reduceLeDiff, Nat.reduceEqDiff, if_true, eq_self])
    | ((with_reducible refine mkS ?_); replace H := Hchk H; obtain ⟨hc, H⟩ := H; (refine make_b hc (by first | (simp only [go_sem]; done) | (simp only [go_sem]; rfl)) (by first | (simp only [go_sem]; done) | (simp only [go_sem]; rfl)) (by first | (simp only [go_sem]; done) | (simp only [go_sem]; rfl)) (by first | (simp only [go_sem]; done) | (simp only [go_sem]; rfl)) rfl rfl ?_); simp only [go_sem, Nat.reduceAdd, Nat.reduceSub, Nat.reduceMul, Nat.reduceLT, Nat.reduceLeDiff, Nat.reduceEqDiff, if_true, eq_self])
    | ((with_reducible refine optS ?_); (first | (with_reducible refine opt_if (by decide) ?_) | (replace H := Hchk H; obtain ⟨hc, H⟩ := H; (first | (refine opt_if hc ?_) | (refine opt_if (of_decide_eq_true hc) ?_) | (refine opt_if ⟨rfl, of_decide_eq_true hc⟩ ?_)))); simp only [go_sem, Nat.reduceAdd, Nat.reduceSub, Nat.reduceMul, Nat.reduceLT, Nat.reduceLeDiff, Nat.reduceEqDiff, if_true, eq_self])
    | ((with_reducible refine loopS ?_); (refine pwp_loopH (Hlp H) ?_ ?_); (focus (simp only [LoopE.T, LoopE.M]; (with_reducible refine cutS ?_); (first | (with_reducible apply cutL_0) | (with_reducible apply cutL_1) | (with_reducible apply cutL_2) | (with_reducible apply cutL_3) | (with_reducible apply cutL_4) | (with_reducible apply cutL_5) | (with_reducible apply cutL_6) | (with_reducible apply cutL_7) | (with_reducible apply cutL_8) | (with_reducible apply cutL_9) | (with_reducible apply cutL_10) | (with_reducible apply cutL_11) | (with_reducible apply cutL_12)); (repeat' (first       | (exact lowB_0) | (refine lowB_c ?_) | (refine lowB_d ?_) | (with_reducible refine cutT_un ?_)       | (with_reducible refine cutT_c ?_ ?_)       | (with_reducible exact cutT_nil)       | (with_reducible exact cutV_c rfl)       | exact cutV_c rfl       | (with_reducible exact cutL_nil)       | (with_reducible refine cutL_c ?_ ?_)       | exact .c _ rfl       | exact .un _       | exact cutC_ms rfl rfl       | exact cutC_be rfl rfl       | exact cutC_nilsl0 | exact cutC_nilsl       | exact cutC_nilms rfl rfl       | (refine cutC_fms rfl ?_)       | (refine cutC_fbe rfl rfl ?_)       | (with_reducible refine cutV_ag ?_)       | (with_reducible refine cutV_tu ?_)       | (with_reducible exact cutAs_nil)       | (with_reducible refine cutAs_c ?_ ?_)       | (with_reducible refine cutA_ag ?_)       | (with_reducible refine cutA_k ?_)       | (with_reducible refine cutV_k ?_)       | (with_reducible exact rowsOk_nil)       | (refine rowsOk_live rfl ?_ ?_)       | (refine rowsOk_new0 rfl ?_) | (refine rowsOk_new rfl ?_)       | (with_reducible refine rowsOk_dead ?_)       | (with_reducible refine cutB_one ?_)       | (with_reducible exact cutB_nil)       | (with_reducible refine cutB_two ?_)       | (with_reducible exact cutE_n)       | (with_reducible refine cutE_c ?_ ?_)       | (with_reducible exact cutB_same)       | (with_reducible refine cutB_set ?_)       | exact cutB_same       | (refine cutB_set ?_)       | (refine cutB_rep ?_)       | (refine cutB_snoc ?_)       | (simp only [cInt, cStr, cBool, cLabel, cParcel, cZone, cRate, cLeg, cNetwork, cTrip, cBooking, cScan, cOrder, cWorld, cLine, cAct, cOffice, cItem, cChute, cInlet, cCentre, cThing, cBelief])       | (with_unfolding_all rfl))); (all_goals first | (exact dropped_of rfl) | exact none))); (clear H; intro n_ s_ H K_ hL; replace H := Hrd H; simp only [LoopE.T, LoopE.M]))
    | ((with_reducible refine pwp_draw (by kernel_rfl) ?_); simp only [go_sem, Nat.reduceAdd, Nat.reduceSub, Nat.reduceMul, Nat.reduceLT, Nat.reduceLeDiff, Nat.reduceEqDiff, if_true, eq_self])
    | ((with_reducible refine endD_intro (by kernel_rfl) ?_); simp only [thenP_normal, blockP_normal])
    | ((with_reducible refine hK _ _ ?_); clear hK)
    | (clear hK; (with_reducible refine hK _ _ ?_); clear hK)
    | (clear hK; clear hK; (with_reducible refine hK _ _ ?_); clear hK)
    | (clear hK; clear hK; clear hK; (with_reducible refine hK _ _ ?_); clear hK)
    | (clear hK; clear hK; clear hK; clear hK; (with_reducible refine hK _ _ ?_); clear hK)
    | (clear hK; clear hK; clear hK; clear hK; clear hK; (with_reducible refine hK _ _ ?_); clear hK)
    | ((with_reducible refine And.intro ?_ ?_); omega)
    | (simp only [nxt_app, nxd_app, atM_app]; simp only [go_sem, Nat.reduceAdd, Nat.reduceSub, Nat.reduceMul, Nat.reduceLT, Nat.reduceLeDiff, Nat.reduceEqDiff, if_true, eq_self])
    | (simp only [idxmap hy, go_sem, Nat.reduceAdd, Nat.reduceSub, Nat.reduceMul, Nat.reduceLT, Nat.reduceLeDiff, Nat.reduceEqDiff, if_true, eq_self])
    | ((with_reducible replace H := HexL H); (with_reducible refine hL _ _ _ H ?_); (try simp only [LoopE.T, LoopE.M]); (with_reducible refine cutS ?_); (first | (with_reducible apply cutL_0) | (with_reducible apply cutL_1) | (with_reducible apply cutL_2) | (with_reducible apply cutL_3) | (with_reducible apply cutL_4) | (with_reducible apply cutL_5) | (with_reducible apply cutL_6) | (with_reducible apply cutL_7) | (with_reducible apply cutL_8) | (with_reducible apply cutL_9) | (with_reducible apply cutL_10) | (with_reducible apply cutL_11) | (with_reducible apply cutL_12)); (repeat' (first       | (exact lowB_0) | (refine lowB_c ?_) | (refine lowB_d ?_) | (with_reducible refine cutT_un ?_)       | (with_reducible refine cutT_c ?_ ?_)       | (with_reducible exact cutT_nil)       | (with_reducible exact cutV_c rfl)       | exact cutV_c rfl       | (with_reducible exact cutL_nil)       | (with_reducible refine cutL_c ?_ ?_)       | exact .c _ rfl       | exact .un _       | exact cutC_ms rfl rfl       | exact cutC_be rfl rfl       | exact cutC_nilsl0 | exact cutC_nilsl       | exact cutC_nilms rfl rfl       | (refine cutC_fms rfl ?_)       | (refine cutC_fbe rfl rfl ?_)       | (with_reducible refine cutV_ag ?_)       | (with_reducible refine cutV_tu ?_)       | (with_reducible exact cutAs_nil)       | (with_reducible refine cutAs_c ?_ ?_)       | (with_reducible refine cutA_ag ?_)       | (with_reducible refine cutA_k ?_)       | (with_reducible refine cutV_k ?_)       | (with_reducible exact rowsOk_nil)       | (refine rowsOk_live rfl ?_ ?_)       | (refine rowsOk_new0 rfl ?_) | (refine rowsOk_new rfl ?_)       | (with_reducible refine rowsOk_dead ?_)       | (with_reducible refine cutB_one ?_)       | (with_reducible exact cutB_nil)       | (with_reducible refine cutB_two ?_)       | (with_reducible exact cutE_n)       | (with_reducible refine cutE_c ?_ ?_)       | (with_reducible exact cutB_same)       | (with_reducible refine cutB_set ?_)       | exact cutB_same       | (refine cutB_set ?_)       | (refine cutB_rep ?_)       | (refine cutB_snoc ?_)       | (simp only [cInt, cStr, cBool, cLabel, cParcel, cZone, cRate, cLeg, cNetwork, cTrip, cBooking, cScan, cOrder, cWorld, cLine, cAct, cOffice, cItem, cChute, cInlet, cCentre, cThing, cBelief])       | (with_unfolding_all rfl))); (all_goals first | (exact dropped_of rfl) | exact none))
    | ((with_reducible replace H := HexL H); clear hL; (with_reducible refine hL _ _ _ H ?_); (try simp only [LoopE.T, LoopE.M]); (with_reducible refine cutS ?_); (first | (with_reducible apply cutL_0) | (with_reducible apply cutL_1) | (with_reducible apply cutL_2) | (with_reducible apply cutL_3) | (with_reducible apply cutL_4) | (with_reducible apply cutL_5) | (with_reducible apply cutL_6) | (with_reducible apply cutL_7) | (with_reducible apply cutL_8) | (with_reducible apply cutL_9) | (with_reducible apply cutL_10) | (with_reducible apply cutL_11) | (with_reducible apply cutL_12)); (repeat' (first       | (exact lowB_0) | (refine lowB_c ?_) | (refine lowB_d ?_) | (with_reducible refine cutT_un ?_)       | (with_reducible refine cutT_c ?_ ?_)       | (with_reducible exact cutT_nil)       | (with_reducible exact cutV_c rfl)       | exact cutV_c rfl       | (with_reducible exact cutL_nil)       | (with_reducible refine cutL_c ?_ ?_)       | exact .c _ rfl       | exact .un _       | exact cutC_ms rfl rfl       | exact cutC_be rfl rfl       | exact cutC_nilsl0 | exact cutC_nilsl       | exact cutC_nilms rfl rfl       | (refine cutC_fms rfl ?_)       | (refine cutC_fbe rfl rfl ?_)       | (with_reducible refine cutV_ag ?_)       | (with_reducible refine cutV_tu ?_)       | (with_reducible exact cutAs_nil)       | (with_reducible refine cutAs_c ?_ ?_)       | (with_reducible refine cutA_ag ?_)       | (with_reducible refine cutA_k ?_)       | (with_reducible refine cutV_k ?_)       | (with_reducible exact rowsOk_nil)       | (refine rowsOk_live rfl ?_ ?_)       | (refine rowsOk_new0 rfl ?_) | (refine rowsOk_new rfl ?_)       | (with_reducible refine rowsOk_dead ?_)       | (with_reducible refine cutB_one ?_)       | (with_reducible exact cutB_nil)       | (with_reducible refine cutB_two ?_)       | (with_reducible exact cutE_n)       | (with_reducible refine cutE_c ?_ ?_)       | (with_reducible exact cutB_same)       | (with_reducible refine cutB_set ?_)       | exact cutB_same       | (refine cutB_set ?_)       | (refine cutB_rep ?_)       | (refine cutB_snoc ?_)       | (simp only [cInt, cStr, cBool, cLabel, cParcel, cZone, cRate, cLeg, cNetwork, cTrip, cBooking, cScan, cOrder, cWorld, cLine, cAct, cOffice, cItem, cChute, cInlet, cCentre, cThing, cBelief])       | (with_unfolding_all rfl))); (all_goals first | (exact dropped_of rfl) | exact none))
    | ((with_reducible refine jnX H hL ?_); (with_reducible refine cutS ?_); (first | (with_reducible apply cutL_0) | (with_reducible apply cutL_1) | (with_reducible apply cutL_2) | (with_reducible apply cutL_3) | (with_reducible apply cutL_4) | (with_reducible apply cutL_5) | (with_reducible apply cutL_6) | (with_reducible apply cutL_7) | (with_reducible apply cutL_8) | (with_reducible apply cutL_9) | (with_reducible apply cutL_10) | (with_reducible apply cutL_11) | (with_reducible apply cutL_12)); (repeat' (first       | (exact lowB_0) | (refine lowB_c ?_) | (refine lowB_d ?_) | (with_reducible refine cutT_un ?_)       | (with_reducible refine cutT_c ?_ ?_)       | (with_reducible exact cutT_nil)       | (with_reducible exact cutV_c rfl)       | exact cutV_c rfl       | (with_reducible exact cutL_nil)       | (with_reducible refine cutL_c ?_ ?_)       | exact .c _ rfl       | exact .un _       | exact cutC_ms rfl rfl       | exact cutC_be rfl rfl       | exact cutC_nilsl0 | exact cutC_nilsl       | exact cutC_nilms rfl rfl       | (refine cutC_fms rfl ?_)       | (refine cutC_fbe rfl rfl ?_)       | (with_reducible refine cutV_ag ?_)       | (with_reducible refine cutV_tu ?_)       | (with_reducible exact cutAs_nil)       | (with_reducible refine cutAs_c ?_ ?_)       | (with_reducible refine cutA_ag ?_)       | (with_reducible refine cutA_k ?_)       | (with_reducible refine cutV_k ?_)       | (with_reducible exact rowsOk_nil)       | (refine rowsOk_live rfl ?_ ?_)       | (refine rowsOk_new0 rfl ?_) | (refine rowsOk_new rfl ?_)       | (with_reducible refine rowsOk_dead ?_)       | (with_reducible refine cutB_one ?_)       | (with_reducible exact cutB_nil)       | (with_reducible refine cutB_two ?_)       | (with_reducible exact cutE_n)       | (with_reducible refine cutE_c ?_ ?_)       | (with_reducible exact cutB_same)       | (with_reducible refine cutB_set ?_)       | exact cutB_same       | (refine cutB_set ?_)       | (refine cutB_rep ?_)       | (refine cutB_snoc ?_)       | (simp only [cInt, cStr, cBool, cLabel, cParcel, cZone, cRate, cLeg, cNetwork, cTrip, cBooking, cScan, cOrder, cWorld, cLine, cAct, cOffice, cItem, cChute, cInlet, cCentre, cThing, cBelief])       | (with_unfolding_all rfl))); (all_goals first | (exact dropped_of rfl) | exact none))
    | (with_reducible exact (Hnone H).elim))) : p := h
theorem eqT_Label {n : Nat} {a b a2 b2 : Int} {c c2 : ByteArray} : eqT Tryz.prog (n + 3) 98 [vi a, vi b, vs c] [vi a2, vi b2, vs c2] = some (decide ((⟨a, b, c⟩ : YLabel) = (⟨a2, b2, c2⟩ : YLabel))) := by
  simp only [eqT, Tryz.underlying3, Tryz.underlying98, ts98, Tryz.underlying9, Program.fieldsOf, go_sem]
  simp [tc98, tc3, tc9]
  rw [baB]; rfl
@[go_sem] theorem eqK_Label {a b a2 b2 : Int} {c c2 : ByteArray} {KR : PV → Prop} : eqK Tryz.prog .eql 98 [vi a, vi b, vs c] [vi a2, vi b2, vs c2] KR = KR (vb (decide ((⟨a, b, c⟩ : YLabel) = (⟨a2, b2, c2⟩ : YLabel)))) := by unfold eqK; rw [show (10000 : Nat) = 9997 + 3 from rfl, eqT_Label, Tryz.underlying98]; simp only [te98, true_and]
@[go_sem] theorem neK_Label {a b a2 b2 : Int} {c c2 : ByteArray} {KR : PV → Prop} : eqK Tryz.prog .neq 98 [vi a, vi b, vs c] [vi a2, vi b2, vs c2] KR = KR (vb (!decide ((⟨a, b, c⟩ : YLabel) = (⟨a2, b2, c2⟩ : YLabel)))) := by unfold eqK; rw [show (10000 : Nat) = 9997 + 3 from rfl, eqT_Label, Tryz.underlying98]; simp only [te98, true_and]
end Go.Proofs.YtjkpcfbmmkmoaaaGreat

/-
  DERIVED: THE SHELF's CONTRACTS AT THIS DUMP, IN PLAIN WORDS (tools/lay-plain.mjs out of 'TryzShelf.lean', which tools/lay-shelf.mjs wrote): THE SAME DECLARATIONS UNDER THE SAME NAMES: 'import', 'namespace', 'open', 'def', 'theorem' AND NOTHING ELSE: no command of the shelf's: FOR A HAND-IN. Each laying: the table of numbers ('.._ren') and one theorem, a field a fact of the dump's own or the kernel's comparison; each contract: ONE APPLICATION.
-/
namespace Go.Proofs
open Go.Shelf
def Tryz.lays128_ren : Go.Shelf.Ren := ⟨fun | 128 => 235 | n => n, fun | 51 => 262 | 3 => 3 | 4 => 4 | 46 => 247 | 5 => 5 | 9 => 9 | n => n, fun | n => n⟩
theorem Tryz.lays128 : Go.Proofs.Lays.n128 Tryz.prog Tryz.lays128_ren := {
  mixed := by kernel_rfl
  f128 := Tryz.func235.trans (congrArg some (by kernel_rfl))
  t3 := Tryz.underlying3
  a3 := Tryz.isAgg3
  z3 := Tryz.sizeOf3
  v3 := Tryz.zeroValue3
  t4 := Tryz.underlying4
  a4 := Tryz.isAgg4
  z4 := Tryz.sizeOf4
  v4 := Tryz.zeroValue4
  t5 := Tryz.underlying5
  a5 := Tryz.isAgg5
  z5 := Tryz.sizeOf5
  v5 := Tryz.zeroValue5
  t9 := Tryz.underlying9
  a9 := Tryz.isAgg9
  z9 := Tryz.sizeOf9
  v9 := Tryz.zeroValue9
  t46 := Tryz.underlying247
  a46 := Tryz.isAgg247
  z46 := Tryz.sizeOf247
  v46 := Tryz.zeroValue247
  t51 := Tryz.underlying262
  a51 := Tryz.isAgg262
  z51 := Tryz.sizeOf262
  v51 := Tryz.zeroValue262 }
/-- bits.Len32: "Len32 returns the minimum number of bits required to represent x; the result is 0 for x == 0.": IT RETURNS 'Lib.bitLen x'; the world is as_ it was. ('h0', 'h1': x is a uint32.) (LAID: no walk: one application.) -/
theorem Tryz.bits_Len32 (x : Int) (w : World) (h0 : 0 ≤ x) (h1 : x ≤ 4294967295) :
    Calls Tryz.prog 235 #[.int .u32 x] w fun e w' => e = .returned (.int .i64 (Lib.bitLen x.toNat)) ∧ w' = w := Any.bits_Len32 Tryz.lays128 x w h0 h1
def Tryz.lays125_ren : Go.Shelf.Ren := ⟨fun | 125 => 223 | 128 => 235 | 129 => 236 | n => n, fun | 46 => 247 | 3 => 3 | 51 => 262 | 53 => 264 | 4 => 4 | 5 => 5 | 9 => 9 | n => n, fun | n => n⟩
theorem Tryz.lays125 : Go.Proofs.Lays.n125 Tryz.prog Tryz.lays125_ren := {
  mixed := by kernel_rfl
  f125 := Tryz.func223.trans (congrArg some (by kernel_rfl))
  f128 := Tryz.func235.trans (congrArg some (by kernel_rfl))
  f129 := Tryz.func236.trans (congrArg some (by kernel_rfl))
  t3 := Tryz.underlying3
  a3 := Tryz.isAgg3
  z3 := Tryz.sizeOf3
  v3 := Tryz.zeroValue3
  t4 := Tryz.underlying4
  a4 := Tryz.isAgg4
  z4 := Tryz.sizeOf4
  v4 := Tryz.zeroValue4
  t5 := Tryz.underlying5
  a5 := Tryz.isAgg5
  z5 := Tryz.sizeOf5
  v5 := Tryz.zeroValue5
  t9 := Tryz.underlying9
  a9 := Tryz.isAgg9
  z9 := Tryz.sizeOf9
  v9 := Tryz.zeroValue9
  t46 := Tryz.underlying247
  a46 := Tryz.isAgg247
  z46 := Tryz.sizeOf247
  v46 := Tryz.zeroValue247
  t51 := Tryz.underlying262
  a51 := Tryz.isAgg262
  z51 := Tryz.sizeOf262
  v51 := Tryz.zeroValue262
  t53 := Tryz.underlying264
  a53 := Tryz.isAgg264
  z53 := Tryz.sizeOf264
  v53 := Tryz.zeroValue264 }
/-- bits.Len: "Len returns the minimum number of bits required to represent x; the result is 0 for x == 0.": IT RETURNS 'Lib.bitLen x'; the world is as_ it was. (A uint has 64 bits in the model.) ITS CALLEE bits.Len64 IS MET BY ITS OWN CONTRACT OFF THE SHELF (lay that first). (LAID: no walk: one application.) -/
theorem Tryz.bits_Len (x : Int) (w : World) (h0 : 0 ≤ x) (h1 : x ≤ 18446744073709551615) :
    Calls Tryz.prog 223 #[.int .u64 x] w fun e w' => e = .returned (.int .i64 (Lib.bitLen x.toNat)) ∧ w' = w := Any.bits_Len Tryz.lays125 x w h0 h1
def Tryz.lays129_ren : Go.Shelf.Ren := ⟨fun | 129 => 236 | n => n, fun | 53 => 264 | 3 => 3 | 4 => 4 | 46 => 247 | 5 => 5 | 9 => 9 | n => n, fun | n => n⟩
theorem Tryz.lays129 : Go.Proofs.Lays.n129 Tryz.prog Tryz.lays129_ren := {
  mixed := by kernel_rfl
  f129 := Tryz.func236.trans (congrArg some (by kernel_rfl))
  t3 := Tryz.underlying3
  a3 := Tryz.isAgg3
  z3 := Tryz.sizeOf3
  v3 := Tryz.zeroValue3
  t4 := Tryz.underlying4
  a4 := Tryz.isAgg4
  z4 := Tryz.sizeOf4
  v4 := Tryz.zeroValue4
  t5 := Tryz.underlying5
  a5 := Tryz.isAgg5
  z5 := Tryz.sizeOf5
  v5 := Tryz.zeroValue5
  t9 := Tryz.underlying9
  a9 := Tryz.isAgg9
  z9 := Tryz.sizeOf9
  v9 := Tryz.zeroValue9
  t46 := Tryz.underlying247
  a46 := Tryz.isAgg247
  z46 := Tryz.sizeOf247
  v46 := Tryz.zeroValue247
  t53 := Tryz.underlying264
  a53 := Tryz.isAgg264
  z53 := Tryz.sizeOf264
  v53 := Tryz.zeroValue264 }
/-- bits.Len64: "Len64 returns the minimum number of bits required to represent x; the result is 0 for x == 0.": IT RETURNS 'Lib.bitLen x'; the world is as_ it was. ('h0', 'h1': x is a uint64.) (LAID: no walk: one application.) -/
theorem Tryz.bits_Len64 (x : Int) (w : World) (h0 : 0 ≤ x) (h1 : x ≤ 18446744073709551615) :
    Calls Tryz.prog 236 #[.int .u64 x] w fun e w' => e = .returned (.int .i64 (Lib.bitLen x.toNat)) ∧ w' = w := Any.bits_Len64 Tryz.lays129 x w h0 h1
def Tryz.lays190_ren : Go.Shelf.Ren := ⟨fun | 190 => 219 | 125 => 223 | 258 => 222 | 128 => 235 | 129 => 236 | 302 => 226 | 303 => 227 | 304 => 228 | 305 => 229 | 306 => 230 | 307 => 231 | 308 => 232 | 309 => 233 | 310 => 234 | 333 => 238 | 329 => 239 | 330 => 240 | 334 => 241 | 335 => 242 | 336 => 243 | 344 => 252 | n => n, fun | 31 => 182 | 9 => 9 | 3 => 3 | 46 => 247 | 0 => 0 | 51 => 262 | 53 => 264 | 4 => 4 | 183 => 255 | 182 => 254 | 131 => 110 | 5 => 5 | 218 => 270 | 222 => 274 | 228 => 284 | 229 => 285 | n => n, fun | n => n⟩
theorem Tryz.lays190 : Go.Proofs.Lays.n190 Tryz.prog Tryz.lays190_ren := {
  mixed := by kernel_rfl
  f125 := Tryz.func223.trans (congrArg some (by kernel_rfl))
  f128 := Tryz.func235.trans (congrArg some (by kernel_rfl))
  f129 := Tryz.func236.trans (congrArg some (by kernel_rfl))
  f190 := Tryz.func219.trans (congrArg some (by kernel_rfl))
  f258 := Tryz.func222.trans (congrArg some (by kernel_rfl))
  f302 := Tryz.func226.trans (congrArg some (by kernel_rfl))
  f303 := Tryz.func227.trans (congrArg some (by kernel_rfl))
  f304 := Tryz.func228.trans (congrArg some (by kernel_rfl))
  f305 := Tryz.func229.trans (congrArg some (by kernel_rfl))
  f306 := Tryz.func230.trans (congrArg some (by kernel_rfl))
  f307 := Tryz.func231.trans (congrArg some (by kernel_rfl))
  f308 := Tryz.func232.trans (congrArg some (by kernel_rfl))
  f309 := Tryz.func233.trans (congrArg some (by kernel_rfl))
  f310 := Tryz.func234.trans (congrArg some (by kernel_rfl))
  f329 := Tryz.func239.trans (congrArg some (by kernel_rfl))
  f330 := Tryz.func240.trans (congrArg some (by kernel_rfl))
  f333 := Tryz.func238.trans (congrArg some (by kernel_rfl))
  f334 := Tryz.func241.trans (congrArg some (by kernel_rfl))
  f335 := Tryz.func242.trans (congrArg some (by kernel_rfl))
  f336 := Tryz.func243.trans (congrArg some (by kernel_rfl))
  f344 := Tryz.func252.trans (congrArg some (by kernel_rfl))
  t0 := Tryz.underlying0
  a0 := Tryz.isAgg0
  z0 := Tryz.sizeOf0
  v0 := Tryz.zeroValue0
  t3 := Tryz.underlying3
  a3 := Tryz.isAgg3
  z3 := Tryz.sizeOf3
  v3 := Tryz.zeroValue3
  t4 := Tryz.underlying4
  a4 := Tryz.isAgg4
  z4 := Tryz.sizeOf4
  v4 := Tryz.zeroValue4
  t5 := Tryz.underlying5
  a5 := Tryz.isAgg5
  z5 := Tryz.sizeOf5
  v5 := Tryz.zeroValue5
  t9 := Tryz.underlying9
  a9 := Tryz.isAgg9
  z9 := Tryz.sizeOf9
  v9 := Tryz.zeroValue9
  t31 := Tryz.underlying182
  a31 := Tryz.isAgg182
  z31 := Tryz.sizeOf182
  v31 := Tryz.zeroValue182
  t46 := Tryz.underlying247
  a46 := Tryz.isAgg247
  z46 := Tryz.sizeOf247
  v46 := Tryz.zeroValue247
  t51 := Tryz.underlying262
  a51 := Tryz.isAgg262
  z51 := Tryz.sizeOf262
  v51 := Tryz.zeroValue262
  t53 := Tryz.underlying264
  a53 := Tryz.isAgg264
  z53 := Tryz.sizeOf264
  v53 := Tryz.zeroValue264
  t131 := Tryz.underlying110
  a131 := Tryz.isAgg110
  z131 := Tryz.sizeOf110
  v131 := Tryz.zeroValue110
  t182 := Tryz.underlying254
  a182 := Tryz.isAgg254
  z182 := Tryz.sizeOf254
  v182 := Tryz.zeroValue254
  t183 := Tryz.underlying255
  a183 := Tryz.isAgg255
  z183 := Tryz.sizeOf255
  v183 := Tryz.zeroValue255
  t218 := Tryz.underlying270
  a218 := Tryz.isAgg270
  z218 := Tryz.sizeOf270
  v218 := Tryz.zeroValue270
  t222 := Tryz.underlying274
  a222 := Tryz.isAgg274
  z222 := Tryz.sizeOf274
  v222 := Tryz.zeroValue274
  t228 := Tryz.underlying284
  a228 := Tryz.isAgg284
  z228 := Tryz.sizeOf284
  v228 := Tryz.zeroValue284
  t229 := Tryz.underlying285
  a229 := Tryz.isAgg285
  z229 := Tryz.sizeOf285
  v229 := Tryz.zeroValue285 }
open Go.Sort Go.RowKit in
theorem Tryz.slices_Sort_string (blk off cap : Nat) (ss : List (List UInt8)) (w : World) (hH : Holds encStr w blk off ss.toArray) (hblk : blk < w.heap.size) (hsz : ss.length < 4611686018427387904) :
    Calls Tryz.prog 219 #[.slice (some ⟨blk, off, none⟩) ss.length cap] w fun e w' =>
      e = .returned (.tuple #[]) ∧ ∃ n os, w' = grow (putRow encStr (Sort.ahead w n) blk off (ss.mergeSort fun x y => decide (x ≤ y)).toArray) os := Any.slices_Sort_string Tryz.lays190 blk off cap ss w hH hblk hsz
def Tryz.lays192_ren : Go.Shelf.Ren := ⟨fun | 192 => 201 | 190 => 219 | 125 => 223 | 258 => 222 | 128 => 235 | 129 => 236 | 302 => 226 | 303 => 227 | 304 => 228 | 305 => 229 | 306 => 230 | 307 => 231 | 308 => 232 | 309 => 233 | 310 => 234 | 333 => 238 | 329 => 239 | 330 => 240 | 334 => 241 | 335 => 242 | 336 => 243 | 344 => 252 | n => n, fun | 31 => 182 | 0 => 0 | 9 => 9 | 3 => 3 | 46 => 247 | 51 => 262 | 53 => 264 | 4 => 4 | 183 => 255 | 182 => 254 | 131 => 110 | 5 => 5 | 218 => 270 | 222 => 274 | 228 => 284 | 229 => 285 | n => n, fun | n => n⟩
theorem Tryz.lays192 : Go.Proofs.Lays.n192 Tryz.prog Tryz.lays192_ren := {
  mixed := by kernel_rfl
  f125 := Tryz.func223.trans (congrArg some (by kernel_rfl))
  f128 := Tryz.func235.trans (congrArg some (by kernel_rfl))
  f129 := Tryz.func236.trans (congrArg some (by kernel_rfl))
  f190 := Tryz.func219.trans (congrArg some (by kernel_rfl))
  f192 := Tryz.func201.trans (congrArg some (by kernel_rfl))
  f258 := Tryz.func222.trans (congrArg some (by kernel_rfl))
  f302 := Tryz.func226.trans (congrArg some (by kernel_rfl))
  f303 := Tryz.func227.trans (congrArg some (by kernel_rfl))
  f304 := Tryz.func228.trans (congrArg some (by kernel_rfl))
  f305 := Tryz.func229.trans (congrArg some (by kernel_rfl))
  f306 := Tryz.func230.trans (congrArg some (by kernel_rfl))
  f307 := Tryz.func231.trans (congrArg some (by kernel_rfl))
  f308 := Tryz.func232.trans (congrArg some (by kernel_rfl))
  f309 := Tryz.func233.trans (congrArg some (by kernel_rfl))
  f310 := Tryz.func234.trans (congrArg some (by kernel_rfl))
  f329 := Tryz.func239.trans (congrArg some (by kernel_rfl))
  f330 := Tryz.func240.trans (congrArg some (by kernel_rfl))
  f333 := Tryz.func238.trans (congrArg some (by kernel_rfl))
  f334 := Tryz.func241.trans (congrArg some (by kernel_rfl))
  f335 := Tryz.func242.trans (congrArg some (by kernel_rfl))
  f336 := Tryz.func243.trans (congrArg some (by kernel_rfl))
  f344 := Tryz.func252.trans (congrArg some (by kernel_rfl))
  t0 := Tryz.underlying0
  a0 := Tryz.isAgg0
  z0 := Tryz.sizeOf0
  v0 := Tryz.zeroValue0
  t3 := Tryz.underlying3
  a3 := Tryz.isAgg3
  z3 := Tryz.sizeOf3
  v3 := Tryz.zeroValue3
  t4 := Tryz.underlying4
  a4 := Tryz.isAgg4
  z4 := Tryz.sizeOf4
  v4 := Tryz.zeroValue4
  t5 := Tryz.underlying5
  a5 := Tryz.isAgg5
  z5 := Tryz.sizeOf5
  v5 := Tryz.zeroValue5
  t9 := Tryz.underlying9
  a9 := Tryz.isAgg9
  z9 := Tryz.sizeOf9
  v9 := Tryz.zeroValue9
  t31 := Tryz.underlying182
  a31 := Tryz.isAgg182
  z31 := Tryz.sizeOf182
  v31 := Tryz.zeroValue182
  t46 := Tryz.underlying247
  a46 := Tryz.isAgg247
  z46 := Tryz.sizeOf247
  v46 := Tryz.zeroValue247
  t51 := Tryz.underlying262
  a51 := Tryz.isAgg262
  z51 := Tryz.sizeOf262
  v51 := Tryz.zeroValue262
  t53 := Tryz.underlying264
  a53 := Tryz.isAgg264
  z53 := Tryz.sizeOf264
  v53 := Tryz.zeroValue264
  t131 := Tryz.underlying110
  a131 := Tryz.isAgg110
  z131 := Tryz.sizeOf110
  v131 := Tryz.zeroValue110
  t182 := Tryz.underlying254
  a182 := Tryz.isAgg254
  z182 := Tryz.sizeOf254
  v182 := Tryz.zeroValue254
  t183 := Tryz.underlying255
  a183 := Tryz.isAgg255
  z183 := Tryz.sizeOf255
  v183 := Tryz.zeroValue255
  t218 := Tryz.underlying270
  a218 := Tryz.isAgg270
  z218 := Tryz.sizeOf270
  v218 := Tryz.zeroValue270
  t222 := Tryz.underlying274
  a222 := Tryz.isAgg274
  z222 := Tryz.sizeOf274
  v222 := Tryz.zeroValue274
  t228 := Tryz.underlying284
  a228 := Tryz.isAgg284
  z228 := Tryz.sizeOf284
  v228 := Tryz.zeroValue284
  t229 := Tryz.underlying285
  a229 := Tryz.isAgg285
  z229 := Tryz.sizeOf285
  v229 := Tryz.zeroValue285 }
open Go.Sort Go.RowKit in
theorem Tryz.sort_Strings (blk off cap : Nat) (ss : List (List UInt8)) (w : World) (hH : Holds encStr w blk off ss.toArray) (hblk : blk < w.heap.size) (hsz : ss.length < 4611686018427387904) :
    Calls Tryz.prog 201 #[.slice (some ⟨blk, off, none⟩) ss.length cap] w fun e w' =>
      e = .returned (.tuple #[]) ∧ ∃ n os, w' = grow (putRow encStr (Sort.ahead w n) blk off (ss.mergeSort fun x y => decide (x ≤ y)).toArray) os := Any.sort_Strings Tryz.lays192 blk off cap ss w hH hblk hsz
open Go.RowKit Go.Sort in
/-- .. and plain. (LAID: no walk: one application.) -/
theorem Tryz.slices_Sort_string_none (p : Option Addr) (cap : Nat) (w : World) :
    Calls Tryz.prog 219 #[.slice p 0 cap] w fun e w' => e = .returned (.tuple #[]) ∧ w' = w := Any.slices_Sort_string_none Tryz.lays190 p cap w
open Go.RowKit Go.Sort in
/-- .. and plain. (LAID: no walk: one application.) -/
theorem Tryz.sort_Strings_none (p : Option Addr) (cap : Nat) (w : World) :
    Calls Tryz.prog 201 #[.slice p 0 cap] w fun e w' => e = .returned (.tuple #[]) ∧ w' = w := Any.sort_Strings_none Tryz.lays192 p cap w
end Go.Proofs

/- impl.SortSides at three sides: sort.Sort(sort.Reverse(sort.IntSlice(..))), walked once. -/
namespace Go.Proofs.YtjkpcfbmmkmoaaaGreat
set_option maxRecDepth 10000
open Go.RowKit
set_option linter.unusedVariables false
set_option linter.unusedSimpArgs false
set_option maxRecDepth 100000
abbrev RP (b : Nat) : Value := .pointer (some ⟨b, 0, none⟩)
theorem rev_emb (w : World) (b f : Nat) (sv : Value) (nm : String) (h : w.cell? ⟨b, 0, none⟩ = some (.iface 252 sv))
    (hm : (((Tryz.prog.info? 267).bind fun i => i.methods.find? (·.name == nm)).map fun m => (m.path, m.func)) = some (#[⟨269, 0, true⟩], none))
    (hi : Sem.run Tryz.prog (method (Tryz.prog.types.size + 99) 252 sv nm) w = .ok (f, sv) w) :
    Sem.run Tryz.prog (method (Tryz.prog.types.size + 100) 267 (RP b) nm) w = .ok (f, sv) w := by
  obtain ⟨m, hm1, hm2⟩ := Option.map_eq_some_iff.1 hm
  obtain ⟨i, hi', hm'⟩ := Option.bind_eq_some_iff.1 hm1
  have hpa : m.path = #[⟨269, 0, true⟩] := congrArg Prod.fst hm2
  have hfu : m.func = none := congrArg Prod.snd hm2
  have u := run_underlying Tryz.underlying269
  unfold method
  have hl : Sem.run Tryz.prog (Sem.load Mode.plain ({ block := b, off := 0 } : Addr) Sem.pure) w = .ok (.iface 252 sv) w := by
    simp [Sem.run, h]
  simp [typeInfo, hi', hm', hpa, hfu, follow, Place.get, u, asAddr, loadVar, isAgg, load, h, fieldPlace]
  rw [show ({ block := b, off := 0 } : Addr).add 0 = { block := b, off := 0 } from rfl, hl]
  exact hi
theorem rev_less (w : World) (b : Nat) (sv : Value) (h : w.cell? ⟨b, 0, none⟩ = some (.iface 252 sv)) :
    Sem.run Tryz.prog (method (Tryz.prog.types.size + 100) 267 (RP b) "Less") w = .ok (279, .agg #[.iface 252 sv]) w := by
  have hm : (((Tryz.prog.info? 267).bind fun i => i.methods.find? (·.name == "Less")).map fun m => (m.path, m.func)) = some (#[], some (279, false)) := by kernel_rfl
  obtain ⟨m, hm1, hm2⟩ := Option.map_eq_some_iff.1 hm
  obtain ⟨i, hi', hm'⟩ := Option.bind_eq_some_iff.1 hm1
  have hpa : m.path = #[] := congrArg Prod.fst hm2
  have hfu : m.func = some (279, false) := congrArg Prod.snd hm2
  have u := run_underlying Tryz.underlying267
  have u2 := run_underlying Tryz.underlying269
  unfold method
  have hlv : Sem.run Tryz.prog (loadVar 269 ⟨b, 0, none⟩) w = .ok (.agg #[.iface 252 sv]) w := by
    have a1 := Tryz.isAgg269
    have a2 := Tryz.sizeOf269
    have hl : Sem.run Tryz.prog (Sem.load Mode.plain ({ block := b, off := 0 } : Addr) Sem.pure) w = .ok (.iface 252 sv) w := by
      simp [Sem.run, h]
    unfold loadVar loadCells
    simp [a1, a2, loadCellsFrom, load]
    rw [show ({ block := b, off := 0 } : Addr).add 0 = { block := b, off := 0 } from rfl, hl]
    rfl
  have hk : ∀ (x y : ByteArray) (w : World), Sem.run Tryz.prog (Builtin.ssaWrapNilChk_ #[267] 267 #[RP b, .string x, .string y]) w = .ok (RP b) w := fun _ _ _ => rfl
  have hf : Sem.run Tryz.prog (follow [] 267 (Place.val (RP b))) w = .ok (267, Place.val (RP b)) w := rfl
  have hr : ∀ x, Sem.run Tryz.prog (receiverAt 267 (Place.val (RP b)) false (some x)) w = .ok (.agg #[.iface 252 sv]) w := by
    intro x
    unfold receiverAt
    simp [u, Place.get, strVal, hk, asAddr, hlv]
  simp [typeInfo, hi', hm', hpa, hfu, hf, hr]
open Go.Lib Go.Sort
set_option maxHeartbeats 4000000
abbrev SV (blk off n c : Nat) : Value := .slice (some ⟨blk, off, none⟩) n c
theorem is_len (blk off n c : Nat) (w : World) : Sem.run Tryz.prog (method (Tryz.prog.types.size + 99) 252 (SV blk off n c) "Len") w = .ok (275, SV blk off n c) w := by kernel_rfl
theorem is_swap (blk off n c : Nat) (w : World) : Sem.run Tryz.prog (method (Tryz.prog.types.size + 99) 252 (SV blk off n c) "Swap") w = .ok (278, SV blk off n c) w := by kernel_rfl
theorem is_less (blk off n c : Nat) (w : World) : Sem.run Tryz.prog (method (Tryz.prog.types.size + 100) 252 (SV blk off n c) "Less") w = .ok (276, SV blk off n c) w := by kernel_rfl
theorem isl_Less (blk off c size : Nat) (W : World) (G : Nat → Int) (hc : ∀ t, t < size → W.cell? ⟨blk, off + t, none⟩ = some (.int .i64 (G t))) (i j : Nat) (hi : i < size) (hj : j < size) (_hsz : size < 4611686018427387904) :
    Calls Tryz.prog 276 #[SV blk off size c, .int .i64 i, .int .i64 j] W fun e w' => e = .returned (.bool (decide (G i < G j))) ∧ ∃ q, w' = W.drewN q := by
  have ci := hc i hi
  have cj := hc j hj
  go_enter Tryz.func276, Tryz.ntmps276
  go_wp2
  go_quiet (fail)
  go_wp2
  go_ret
  exact ⟨rfl, nq, rfl⟩
theorem isl_Swap (blk off c size : Nat) (W : World) (x y : Int) (i j : Nat) (hi : i < size) (hj : j < size) (_hsz : size < 4611686018427387904)
    (ci : W.cell? ⟨blk, off + i, none⟩ = some (.int .i64 x)) (cj : W.cell? ⟨blk, off + j, none⟩ = some (.int .i64 y)) (fi : W.frozen? ⟨blk, off + i, none⟩ = false) (fj : W.frozen? ⟨blk, off + j, none⟩ = false) :
    Calls Tryz.prog 278 #[SV blk off size c, .int .i64 i, .int .i64 j] W fun e w' => e = .returned (.tuple #[]) ∧ ∃ q, w' = ((W.setCell ⟨blk, off + i, none⟩ (.int .i64 y)).setCell ⟨blk, off + j, none⟩ (.int .i64 x)).drewN q := by
  obtain ⟨v', hy'⟩ := cell?_setCell_some (w := W) (p := ⟨blk, off + i, none⟩) (x := .int .i64 y) (q := ⟨blk, off + j, none⟩) cj
  go_enter Tryz.func278, Tryz.ntmps278
  go_wp2
  go_region
  all_goals (try go_wp2)
  all_goals go_end0
  all_goals exact ⟨rfl, 1, rfl⟩
theorem isl_Len (blk off c size : Nat) (W : World) : Calls Tryz.prog 275 #[SV blk off size c] W fun e w' => e = .returned (.int .i64 size) ∧ w' = W := by
  go_enter Tryz.func275, Tryz.ntmps275
  go_wp2
  go_ret
  exact ⟨rfl, rfl⟩
theorem rev_Less (blk off c size : Nat) (W : World) (G : Nat → Int) (hc : ∀ t, t < size → W.cell? ⟨blk, off + t, none⟩ = some (.int .i64 (G t))) (hb : blk < W.heap.size) (i j : Nat) (hi : i < size) (hj : j < size) (hsz : size < 4611686018427387904) :
    Calls Tryz.prog 279 #[.agg #[.iface 252 (SV blk off size c)], .int .i64 i, .int .i64 j] W fun e w' => e = .returned (.bool (decide (G j < G i))) ∧ ∃ o q, w' = (W.alloc o).drewN q := by
  have mL := is_less blk off size c
  have eL : ∀ args w, (callFunc 276 args).run Tryz.prog w = .ok (.enter 276 args) w := enters_of Tryz.func276 (by kernel_rfl) rfl
  simp at mL
  have hl : ∀ o, Calls Tryz.prog 276 #[SV blk off size c, .int .i64 j, .int .i64 i] (W.alloc o) fun e w' => e = .returned (.bool (decide (G j < G i))) ∧ ∃ q, w' = (W.alloc o).drewN q := fun o =>
    isl_Less blk off c size _ G (fun t ht => (Below.cell (Up.al o (Up.rfl' W)) (p := ⟨blk, off + t, none⟩) hb).trans (hc t ht)) j i hj hi hsz
  go_enter Tryz.func279, Tryz.ntmps279
  go_wp2_with (go_at_fn 276; refine (hl _).mono ?_; rintro e w' ⟨rfl, q, rfl⟩)
  go_ret
  exact ⟨rfl, _, q, rfl⟩
theorem SW.cellO {w0 W : World} {blk off : Nat} {dk : Array Int} (h : SW (Value.int .i64) w0 blk off dk W) {b o : Nat} (hb : b < w0.heap.size) (hne : b ≠ blk) : W.cell? ⟨b, o, none⟩ = w0.cell? ⟨b, o, none⟩ := by
  obtain ⟨n, os, rfl⟩ := h
  unfold sortWorld
  rw [cell?_grow _ _ _ (by simpa using hb), cell?_putRow_other _ _ _ _ _ _ (.inl hne)]
  rfl
def gtI (x y : Int) : Bool := decide (y < x)
theorem insSort (blk off c b bR : Nat) (d : Array Int) (w : World) (hH : Holds (Value.int .i64) w blk off d) (hblk : blk < w.heap.size) (hR : w.cell? ⟨bR, 0, none⟩ = some (.iface 252 (SV blk off d.size c))) (hRb : bR < w.heap.size) (hne : bR ≠ blk)
    (hab : 0 ≤ b) (hb : b ≤ d.size) (hsz : d.size < 4611686018427387904) :
    Calls Tryz.prog 244 #[.iface 267 (RP bR), .int .i64 0, .int .i64 b] w fun e w' => e = .returned (.tuple #[]) ∧ SW (Value.int .i64) w blk off (Sort.insertionSort gtI d 0 b) w' := by
  have eL : ∀ args w, (callFunc 279 args).run Tryz.prog w = .ok (.enter 279 args) w := enters_of Tryz.func279 (by kernel_rfl) rfl
  have eS : ∀ args w, (callFunc 278 args).run Tryz.prog w = .ok (.enter 278 args) w := enters_of Tryz.func278 (by kernel_rfl) rfl
  go_enter Tryz.func244, Tryz.ntmps244
  go_wp2
  go_loopw [6] (fun vi wr => ∃ (i : Nat) (dk : Array Int), vi = .int .i64 i ∧ 0 < i ∧ i ≤ b + 1 ∧ dk.size = d.size ∧ SW (Value.int .i64) w blk off dk wr ∧
      insOuter gtI 0 b i dk = insOuter gtI 0 b (0 + 1) d) (fun vi _ => b + 1 - (intOf vi).toNat)
  case atStart => exact ⟨1, d, by go_num, by omega, by omega, rfl, SW.start hH, rfl⟩
  case round =>
    obtain ⟨i, dk, rfl, hai, hib, hsk, hwr, hO⟩ := hrel
    have HO : Hid (insOuter gtI 0 b i dk = insOuter gtI 0 b (0 + 1) d) := hO
    clear hO
    go_wp2
    · go_loopw [7] (fun vj wr2 => ∃ (j : Nat) (dj : Array Int), vj = .int .i64 j ∧ j ≤ i ∧ dj.size = d.size ∧ SW (Value.int .i64) w blk off dj wr2 ∧
          insInner gtI 0 j dj = insInner gtI 0 i dk) (fun vj _ => (intOf vj).toNat)
      case atStart => exact ⟨i, dk, rfl, Nat.le_refl _, hsk, hwr, rfl⟩
      case round =>
        obtain ⟨j, dj, rfl, hji, hsj, hw2, hI⟩ := hrel
        have hlt : i < b := by assumption
        have HW : Hid (SW (Value.int .i64) w blk off dj wr) := hw2
        have HI : Hid (insInner gtI 0 j dj = insInner gtI 0 i dk) := hI
        have hHj := hw2.holds hblk hH hsj
        have hbw := hw2.lt hblk
        have hRw : wr.cell? ⟨bR, 0, none⟩ = some (.iface 252 (SV blk off d.size c)) := (SW.cellO hw2 hRb hne).trans hR
        clear hw2 hI
        have out : (j ≤ 0 ∨ gtI dj[j]! dj[j - 1]! = false) → ∀ W, SW (Value.int .i64) w blk off dj W → ∃ (i' : Nat) (dk' : Array Int), Value.int .i64 ((i : Int) + 1) = .int .i64 (i' : Nat) ∧ 0 < i' ∧ i' ≤ b + 1 ∧ dk'.size = d.size ∧
            SW (Value.int .i64) w blk off dk' W ∧ insOuter gtI 0 b i' dk' = insOuter gtI 0 b (0 + 1) d := fun hs W hW =>
          ⟨i + 1, dj, by go_num, by omega, by omega, hsj, hW,
            by rw [← HO.out, insOuter_go _ _ _ _ _ hlt, ← HI.out, insInner_stop _ _ _ _ hs]⟩
        have OUT : Hid _ := out
        clear out
        by_cases hja : 0 < j
        · have mL := rev_less wr bR _ hRw
          simp at mL
          have hl := rev_Less blk off c d.size wr (fun t => dj[t]!) (fun t ht => (hHj t (by omega)).1) hbw j (j - 1) (by omega) (by omega) hsz
          rw [show (((j - 1 : Nat) : Int)) = (j : Int) - 1 by omega] at hl
          have W2 : Hid (∀ o q, SW (Value.int .i64) w blk off dj ((wr.alloc o).drewN q)) := fun o q => (HW.out.alloc o).drewN q
          have mS : ∀ o q, Sem.run Tryz.prog (method (Tryz.prog.types.size + 100) 267 (RP bR) "Swap") ((wr.alloc o).drewN q) = .ok (278, SV blk off d.size c) ((wr.alloc o).drewN q) := fun o q =>
            rev_emb ((wr.alloc o).drewN q) bR 278 (SV blk off d.size c) "Swap" ((SW.cellO (W2.out o q) hRb hne).trans hR) (by kernel_rfl) (is_swap _ _ _ _ _)
          simp at mS
          have hsw : ∀ o q, Calls Tryz.prog 278 #[SV blk off d.size c, .int .i64 j, .int .i64 ((j - 1 : Nat) : Int)] ((wr.alloc o).drewN q) fun e w' => e = .returned (.tuple #[]) ∧ SW (Value.int .i64) w blk off (swp dj j (j - 1)) w' := fun o q => by
            have hh := (W2.out o q).holds hblk hH hsj
            refine (isl_Swap blk off c d.size _ _ _ j (j - 1) (by omega) (by omega) hsz (hh j (by omega)).1 (hh (j - 1) (by omega)).1 (hh j (by omega)).2 (hh (j - 1) (by omega)).2).mono ?_
            rintro e w' ⟨rfl, q', rfl⟩
            exact ⟨rfl, ((W2.out o q).swap hblk j (j - 1) (by omega) (by omega)).drewN q'⟩
          rw [show (((j - 1 : Nat) : Int)) = (j : Int) - 1 by omega] at hsw
          change Calls _ _ _ _ fun e w' => e = .returned (.bool (gtI dj[j]! dj[j - 1]!)) ∧ _ at hl
          cases hlv : gtI dj[j]! dj[j - 1]! with
          | true =>
            rw [hlv] at hl
            go_wp2_with (first
              | (go_at_fn 279; refine hl.mono ?_; rintro e w' ⟨rfl, o, q, rfl⟩)
              | (go_at_fn 278; refine (hsw _ _).mono ?_; rintro e w' ⟨rfl, hS⟩))
            go_roundw
            case rel =>
              (repeat apply Exists.intro)
              refine ⟨⟨j - 1, swp dj j (j - 1), by congr 1 <;> omega, by omega, by rw [size_swp]; exact hsj, hS, ?_⟩, by rw [decide_eq_true hlt, show ((j - 1 : Nat) : Int) = (j : Int) - 1 by omega]⟩
              rw [← HI.out, insInner_go gtI 0 j dj hja hlv]
            case measure => simp [intOf]; omega
          | false =>
            rw [hlv] at hl
            go_wp2_with (go_at_fn 279; refine hl.mono ?_; rintro e w' ⟨rfl, o, q, rfl⟩)
            go_roundw
            case rel => exact OUT.out (Or.inr hlv) _ (W2.out o q)
            case measure => simp [intOf]; omega
        · go_wp2
          go_roundw
          case rel => exact OUT.out (Or.inl (by omega)) _ HW.out
          case measure => simp [intOf]; omega
    · have hge : ¬ i < b := by assumption
      go_end0
      exact ⟨rfl, by unfold Sort.insertionSort; rw [← HO.out, insOuter_stop _ _ _ _ _ hge]; exact hwr⟩
end Go.Proofs.YtjkpcfbmmkmoaaaGreat

/- sort.Sort over sort.Reverse at three integers; impl.SortSides. -/
namespace Go.Proofs.YtjkpcfbmmkmoaaaGreat
set_option maxRecDepth 10000
open Go.RowKit Go.Lib Go.Sort
set_option linter.unusedVariables false
set_option linter.unusedSimpArgs false
set_option maxRecDepth 100000
set_option maxHeartbeats 4000000
theorem pdq3 (blk off c lim bR : Nat) (d : Array Int) (w : World) (hH : Holds (Value.int .i64) w blk off d) (hblk : blk < w.heap.size) (hd : d.size = 3) (hR : w.cell? ⟨bR, 0, none⟩ = some (.iface 252 (SV blk off d.size c))) (hRb : bR < w.heap.size) (hne : bR ≠ blk) :
    Calls Tryz.prog 237 #[.iface 267 (RP bR), .int .i64 0, .int .i64 3, .int .i64 lim] w fun e w' => e = .returned (.tuple #[]) ∧ SW (Value.int .i64) w blk off (Sort.insertionSort gtI d 0 3) w' := by
  have hi := insSort blk off c 3 bR d w hH hblk hR hRb hne (by omega) (by omega) (by omega)
  rw [show ((3 : Nat) : Int) = 3 from rfl] at hi
  clear hH hR
  go_enter Tryz.func237, Tryz.ntmps237
  go_wp2
  go_loopw [1, 2] (fun v1 v2 wr => v1 = .int .i64 0 ∧ v2 = .int .i64 3 ∧ wr = w) (fun _ _ _ => 0)
  case atStart => exact ⟨rfl, rfl, rfl⟩
  case round =>
    obtain ⟨rfl, rfl, rfl⟩ := hrel
    go_wp2_with (go_at_call 244; refine hi.mono ?_; rintro e w' ⟨rfl, hS⟩)
    (try simp only [Exit.inBlock, Exit.then])
    refine bodyPost_ret (results_none rfl _ _ _) rfl ?_
    exact ⟨rfl, hS⟩
theorem sortRev3 (blk off c bR : Nat) (d : Array Int) (w : World) (hH : Holds (Value.int .i64) w blk off d) (hblk : blk < w.heap.size) (hd : d.size = 3) (hR : w.cell? ⟨bR, 0, none⟩ = some (.iface 252 (SV blk off d.size c))) (hRb : bR < w.heap.size) (hne : bR ≠ blk) :
    Calls Tryz.prog 224 #[.iface 267 (RP bR)] w fun e w' => e = .returned (.tuple #[]) ∧ SW (Value.int .i64) w blk off (Sort.insertionSort gtI d 0 3) w' := by
  have mN := rev_emb w bR 275 (SV blk off d.size c) "Len" hR (by kernel_rfl) (is_len _ _ _ _ _)
  simp at mN
  have eN : ∀ args w, (callFunc 275 args).run Tryz.prog w = .ok (.enter 275 args) w := enters_of Tryz.func275 (by kernel_rfl) rfl
  have hN := isl_Len blk off c d.size w
  have hL := Tryz.bits_Len 3 w (by omega) (by omega)
  have hp := fun lim => pdq3 blk off c lim bR d w hH hblk hd hR hRb hne
  rw [hd] at mN hN
  rw [show ((3 : Nat) : Int) = 3 from rfl] at hN
  clear hH hR
  go_enter Tryz.func224, Tryz.ntmps224
  go_wp2_with (first
    | (go_at_fn 275; refine hN.mono ?_; rintro e w' ⟨rfl, rfl⟩)
    | (go_at_call 223; refine hL.mono ?_; rintro e w' ⟨rfl, rfl⟩)
    | (go_at_call 237; refine (hp _).mono ?_; rintro e w' ⟨rfl, hS⟩))
  all_goals first
    | (exfalso; omega)
    | (go_end0; exact ⟨rfl, hS⟩)
end Go.Proofs.YtjkpcfbmmkmoaaaGreat

/- append onto a slice of the call's own, the source any slice that reads as_ a list. No program in sight. -/
namespace Go.Proofs.YtjkpcfbmmkmoaaaGreat
set_option maxRecDepth 10000
open Go.RowKit

/-- The facts on a slice type and its element type that append asks. -/
structure ElT (P : Program) (t e : TypeId) (k bytes : Nat) : Prop where
  ht : P.underlying t = some (.slice e)
  info : ∃ i z, P.info? e = some i ∧ i.zero = some z ∧ i.size = k ∧ i.bytes = bytes ∧ z.cells.size = k
theorem ElT.mk' {P : Program} {t e : TypeId} {k bytes : Nat} {z : Value} (ht : P.underlying t = some (.slice e)) (h : (P.info? e).map (fun i => (i.zero, i.size, i.bytes)) = some (some z, k, bytes)) (hz : z.cells.size = k) : ElT P t e k bytes := by
  obtain ⟨i, h1, h2, h3, h4⟩ := info_parts h
  exact ⟨ht, i, z, h1, h2, h3, h4, hz⟩

theorem Own.form {α : Type} [Enc α] {w : World} {B E : Nat} {v : Value} {xs : List α} (h : Own w B E v xs) : ∃ A c, v = .slice A xs.length c ∧ xs.length ≤ c ∧ c ≤ maxLen := by
  rcases h.2 with ⟨hv, h0⟩ | ⟨g, cap, cur, hv, _, _, hnc, hcm, _⟩
  · exact ⟨none, 0, by rw [hv, h0], by omega, by unfold maxLen; omega⟩
  · exact ⟨_, cap, hv, hnc, hcm⟩
theorem Own.nil_ {α : Type} [Enc α] (w : World) (B E : Nat) : Own w B E (.slice none 0 0) ([] : List α) := World.ownsRow_nil _ _ _ _
theorem Own.empty {α : Type} [Enc α] (w : World) (B E c : Nat) (cur : Array Value) (hB : B ≤ w.heap.size) (hm : c ≤ maxLen) (hs : cur.size = c * Enc.k α) :
    Own (w.alloc (.cells cur E)) B E (.slice (some ⟨w.heap.size, 0, none⟩) 0 c) ([] : List α) := World.ownsRow_made w cur c hB hm hs
theorem Own.more {α : Type} [Enc α] {w : World} {B B' E : Nat} {v : Value} {xs : List α} (h : Own w B E v xs) (hB : B' ≤ B) : Own w B' E v xs := by
  refine ⟨h.1, ?_⟩
  rcases h.2 with h2 | ⟨g, cap, cur, hv, hb, r⟩
  · exact .inl h2
  · exact .inr ⟨g, cap, cur, hv, by omega, r⟩
theorem Own.down {α : Type} [Enc α] {w0 W w : World} {E : Nat} {v : Value} {xs : List α} (h : Own w W.heap.size E v xs) (hu : Up w0 W) : Own w w0.heap.size E v xs := h.more hu.size
theorem Up.le {w0 w : World} (h : Up w0 w) : w0.heap.size ≤ w.heap.size := h.size
theorem Own.grown {α : Type} [Enc α] {w w' : World} {B E : Nat} {v : Value} {xs : List α} {row : Option Nat} (h : Own w B E v xs) (hg : w.grownBy w' row) (hne : v.ownBlock = none ∨ v.ownBlock ≠ row) : Own w' B E v xs :=
  World.ownsRow.kept h hg hne
/-- A fresh slice of one element, as_ append's last argument is laid. -/
theorem Rd.one {α : Type} [Enc α] (w : World) (T : TypeId) (x : α) (B : Nat) (hB : w.heap.size < B) : Rd (w.alloc (.cells (Enc.cells x).toArray T)) B (some ⟨w.heap.size, 0, none⟩) [x] := by
  intro _
  refine ⟨w.heap.size, 0, rfl, hB, fun j u hu => ?_⟩
  rw [flat_one] at hu
  rw [Nat.zero_add, cell_of_row _ _ j _ T (0, 0) (heap_alloc_new w _)]
  simpa using hu

/-- The row at a block, as_ a loop that writes into it sees it: its first m cells are ys's. -/
def Marking (w0 w : World) (B E k : Nat) (g n cap m : Nat) (ys : List Value) : Prop :=
  ∃ cs : List Value, w.ownsRow B E k (.slice (some ⟨g, 0, none⟩) n cap) n cs ∧ cs.take m = ys.take m ∧ w0.grownBy w (some g)
theorem Marking.start {w : World} {B E k g n cap : Nat} {cs ys : List Value} (h : w.ownsRow B E k (.slice (some ⟨g, 0, none⟩) n cap) n cs) : Marking w w B E k g n cap 0 ys :=
  ⟨cs, h, by simp, ⟨rfl, rfl, rfl, Nat.le_refl _, fun _ _ _ => rfl⟩⟩
theorem Marking.cell {w0 w : World} {B E k g n cap m : Nat} {ys : List Value} (h : Marking w0 w B E k g n cap m ys) {j : Nat} (hj : j < n * k) : ∃ u, w.cell? ⟨g, j, none⟩ = some u := by
  obtain ⟨cs, ho, _⟩ := h
  have hl : cs.length = n * k := ho.1
  exact ⟨cs[j]'(by omega), by rw [ho.cellAt j hj]; exact List.getElem?_eq_getElem _⟩
theorem Marking.frozen {w0 w : World} {B E k g n cap m : Nat} {ys : List Value} (h : Marking w0 w B E k g n cap m ys) (j : Nat) : w.frozen? ⟨g, j, none⟩ = false := by
  obtain ⟨cs, ho, _⟩ := h
  exact ho.frozenAt j
theorem grownBy_trans {a b c : World} {row : Option Nat} (h : a.grownBy b row) (k : b.grownBy c row) : a.grownBy c row :=
  ⟨k.os.trans h.os, k.tape.trans h.tape, k.output.trans h.output, Nat.le_trans h.size k.size, fun i hi hne => (k.block i (Nat.lt_of_lt_of_le hi h.size) hne).trans (h.block i hi hne)⟩
theorem Marking.set1 {w0 w : World} {B E k g n cap m : Nat} {ys : List Value} {v : Value} (h : Marking w0 w B E k g n cap m ys) (hm : m < n * k) (hy : ys[m]? = some v) :
    Marking w0 (w.setCell ⟨g, m, none⟩ v) B E k g n cap (m + 1) ys := by
  obtain ⟨cs, ho, ht, hg⟩ := h
  have hl : cs.length = n * k := ho.1
  obtain ⟨h1, h2⟩ := ho.stored m v
  exact ⟨cs.set m v, h1, take_set_succ (by omega) hy ht, grownBy_trans hg h2⟩
theorem Marking.drewN {w0 w : World} {B E k g n cap m : Nat} {ys : List Value} (h : Marking w0 w B E k g n cap m ys) (q : Nat) : Marking w0 (w.drewN q) B E k g n cap m ys := by
  obtain ⟨cs, ho, ht, hg⟩ := h
  exact ⟨cs, ho, ht, ⟨hg.os, hg.tape, hg.output, hg.size, hg.block⟩⟩
theorem Marking.own {α : Type} [Enc α] {w0 w : World} {B E g n cap : Nat} {ys : List α} (h : Marking w0 w B E (Enc.k α) g n cap (n * Enc.k α) (flat ys)) (hn : ys.length = n) : Own w B E (.slice (some ⟨g, 0, none⟩) n cap) ys ∧ w0.grownBy w (some g) := by
  obtain ⟨cs, ho, ht, hg⟩ := h
  have hl : cs.length = n * Enc.k α := ho.1
  have e1 : (flat ys).take (n * Enc.k α) = flat ys := List.take_of_length_le (by rw [flat_len, hn]; exact Nat.le_refl _)
  rw [e1, List.take_of_length_le (by omega)] at ht
  subst ht
  refine ⟨?_, hg⟩
  unfold Own
  rw [hn]
  exact ho
theorem Own.sep1 {α β : Type} [Enc α] [Enc β] {w w' we : World} {B E Bx Ex : Nat} {v vx : Value} {xs : List α} {ys : List β} (hv : Own w B E v xs) (hx : Own we Bx Ex vx ys) (hle : we.heap.size ≤ B) (hg : w.grownBy w' vx.ownBlock) : Own w' B E v xs := by
  refine hv.grown hg ?_
  cases hb : v.ownBlock with
  | none => exact .inl rfl
  | some k =>
    refine .inr fun e => ?_
    have h1 := (World.ownsRow.lt hv k hb).1
    have h2 := (World.ownsRow.lt hx k e.symm).2
    omega
theorem Own.sep2 {α β : Type} [Enc α] [Enc β] {w w' we : World} {B B' E Bx Ex : Nat} {v vx : Value} {xs xs' : List α} {ys : List β} (hv : Own w B E v xs) (hv0 : Own we B' E v xs') (hx : Own w Bx Ex vx ys) (hle : we.heap.size ≤ Bx) (hg : w.grownBy w' vx.ownBlock) : Own w' B E v xs := by
  refine hv.grown hg ?_
  cases hb : v.ownBlock with
  | none => exact .inl rfl
  | some k =>
    refine .inr fun e => ?_
    have h1 := (World.ownsRow.lt hv0 k hb).2
    have h2 := (World.ownsRow.lt hx k e.symm).1
    omega
theorem addr_add (b o j : Nat) : (⟨b, o, none⟩ : Addr).add j = ⟨b, o + j, none⟩ := by unfold Addr.add; split <;> simp_all

theorem run_append_nil_src {α : Type} [Enc α] {P : Program} (w : World) {t ty e : Nat} {i : TypeInfo} (ht : P.underlying t = some (.slice e)) (hi : P.info? e = some i) {base : Nat} {v : Value} {ys : List α} (hown : Own w base e v ys) (c : Nat) :
    (Builtin.append_ #[t, t] ty #[v, .slice none 0 c]).run P w = .ok v w := by
  rcases hown.2 with ⟨rfl, h0⟩ | ⟨g, cap, cur, rfl, _, _, hnc, _⟩
  · simp [Builtin.append_, run_underlying ht, sizeOf, typeInfo, hi, Builtin.lenOf, Builtin.firstCells]
  · simp [Builtin.append_, run_underlying ht, sizeOf, typeInfo, hi, Builtin.lenOf, Builtin.firstCells, hnc, storeCells]
theorem run_append_rd {α : Type} [Enc α] {P : Program} (w : World) {t ty e bytes : Nat} (T : ElT P t e (Enc.k α) bytes) {base : Nat} {v : Value} {ys : List α} (hown : Own w base e v ys)
    {B : Nat} {A : Option Addr} {c : Nat} {xs : List α} (hr : Rd w B A xs) (hbytes : (ys.length + xs.length) * bytes ≤ 140737488355328) (h63 : ys.length + xs.length ≤ maxLen) (hbase : base ≤ w.heap.size) :
    ∃ v' w', (Builtin.append_ #[t, t] ty #[v, .slice A xs.length c]).run P w = .ok v' w' ∧ Own w' base e v' (ys ++ xs) ∧ w.grownBy w' v.ownBlock ∧ (v'.ownBlock = v.ownBlock ∨ v'.ownBlock = some w.heap.size) := by
  obtain ⟨i, z, hi, hz, hs, hb, hzs⟩ := T.info
  cases A with
  | none =>
    have hx : xs = [] := by
      rcases Classical.em (xs = []) with h | h
      · exact h
      · obtain ⟨_, _, h', _⟩ := hr h
        cases h'
    subst hx
    have hrun := run_append_nil_src (P := P) w (ty := ty) T.ht hi hown c
    exact ⟨v, w, by simpa using hrun, by simpa using hown, ⟨rfl, rfl, rfl, Nat.le_refl _, fun _ _ _ => rfl⟩, .inl rfl⟩
  | some ad =>
    have hnews : ∀ j u, (flat xs)[j]? = some u → w.cell? (ad.add j) = some u := by
      intro j u hu
      have hne : xs ≠ [] := by rintro rfl; simp [flat] at hu
      obtain ⟨b, off, hA', _, hc⟩ := hr hne
      injection hA' with hA'
      subst hA'
      rw [addr_add]
      exact hc j u hu
    obtain ⟨v', w', hrun, h2, h3, _, h5⟩ := run_append_own_at (P := P) w base t ty e i z (Enc.k α) bytes T.ht hi hz hs hb hzs Enc.pos v ys.length (flat ys) hown ad xs.length c (flat xs) (flat_len xs) hnews (flat_oneCell xs) h63 hbytes hbase
    refine ⟨v', w', hrun, ?_, h3, h5⟩
    have e1 : (ys ++ xs).length = ys.length + xs.length := List.length_append
    unfold Own
    rw [e1, flat_append]
    exact h2

theorem Up.grown' {α : Type} [Enc α] {w0 w w' : World} {base e : Nat} {v : Value} {ys : List α} (h : Up w0 w) (hg : w.grownBy w' v.ownBlock) (hown : Own w base e v ys) (hb : w0.heap.size ≤ base) : Up w0 w' :=
  Below.grown h hg h.size (fun k hk => Nat.le_trans hb (World.ownsRow.lt hown k hk).1)

theorem wp_append_rd {α : Type} [Enc α] {P : Program} {w : World} {o : Oper} {a : Act} {K : Act → World → Prop} {Q : Exit → Act → World → Prop} {t e bytes : Nat} (T : ElT P t e (Enc.k α) bytes)
    (s x : Operand) (ho : o.op = .call { callee := .builtin .append, args := #[s, x], argTypes := #[t, t] })
    {base : Nat} {v : Value} {ys : List α} (hs : a.eval s = v) (hown : Own w base e v ys)
    {B : Nat} {A : Option Addr} {c : Nat} {xs : List α} (n : Nat) (hx : a.eval x = .slice A n c) (hn : n = xs.length) (hr : Rd w B A xs)
    (hbytes : (ys.length + xs.length) * bytes ≤ 140737488355328) (h63 : ys.length + xs.length ≤ maxLen) (hbase : base ≤ w.heap.size)
    (h : ∀ v' w', Own w' base e v' (ys ++ xs) → w.grownBy w' v.ownBlock → (v'.ownBlock = v.ownBlock ∨ v'.ownBlock = some w.heap.size) → (∀ w0, w0.heap.size ≤ base → Up w0 w → Up w0 w') → K (a.put o.dst v') w') :
    o.wp P a w K Q := by
  subst hn
  obtain ⟨v', w', hrun, h2, h3, h4⟩ := run_append_rd (P := P) w (ty := o.type) (c := c) T hown hr hbytes h63 hbase
  unfold Oper.wp execOp
  simp only [ho, resolve, invoke, builtin, Sem.run_bind, Sem.run_pure, Result.andThen_ok, List.map_toArray, List.map_cons, List.map_nil, hs, hx, hrun]
  exact h v' w' h2 h3 h4 fun w0 hb hu => Up.grown' hu h3 hown hb
theorem wpList_append_rd {α : Type} [Enc α] {P : Program} {w : World} {ops : Array Oper} {rest : List Oper} {o : Oper} {a : Act} {Q : Exit → Act → World → Prop} {t e bytes : Nat} (T : ElT P t e (Enc.k α) bytes)
    (hgd : o.guard = none) (s x : Operand) (ho : o.op = .call { callee := .builtin .append, args := #[s, x], argTypes := #[t, t] })
    {base : Nat} {v : Value} {ys : List α} (hs : a.eval s = v) (hown : Own w base e v ys)
    {B : Nat} {A : Option Addr} {c : Nat} {xs : List α} (n : Nat) (hx : a.eval x = .slice A n c) (hn : n = xs.length) (hr : Rd w B A xs)
    (hbytes : (ys.length + xs.length) * bytes ≤ 140737488355328) (h63 : ys.length + xs.length ≤ maxLen) (hbase : base ≤ w.heap.size)
    (h : ∀ v' w', Own w' base e v' (ys ++ xs) → w.grownBy w' v.ownBlock → (v'.ownBlock = v.ownBlock ∨ v'.ownBlock = some w.heap.size) → (∀ w0, w0.heap.size ≤ base → Up w0 w → Up w0 w') → wpList P ops Q rest (a.put o.dst v') w') :
    wpList P ops Q (o :: rest) a w :=
  wpList_plain hgd fun _ hK => wp_append_rd T s x ho hs hown n hx hn hr hbytes h63 hbase fun v' w' h2 h3 h4 h5 => hK _ _ (h v' w' h2 h3 h4 h5)
theorem step_append_rd {α : Type} [Enc α] {P : Program} {w : World} {ops : Array Oper} {o : Oper} {a : Act} {K : Act → World → Prop} {Q : Exit → Act → World → Prop} {E : Prop} {t e bytes : Nat} (T : ElT P t e (Enc.k α) bytes)
    (hgd : o.guard = none) (s x : Operand) (ho : o.op = .call { callee := .builtin .append, args := #[s, x], argTypes := #[t, t] })
    {base : Nat} {v : Value} {ys : List α} (hs : a.eval s = v) (hown : Own w base e v ys)
    {B : Nat} {A : Option Addr} {c : Nat} {xs : List α} (n : Nat) (hx : a.eval x = .slice A n c) (hn : n = xs.length) (hr : Rd w B A xs)
    (hbytes : (ys.length + xs.length) * bytes ≤ 140737488355328) (h63 : ys.length + xs.length ≤ maxLen) (hbase : base ≤ w.heap.size)
    (h : ∀ v' w', Own w' base e v' (ys ++ xs) → w.grownBy w' v.ownBlock → (v'.ownBlock = v.ownBlock ∨ v'.ownBlock = some w.heap.size) → (∀ w0, w0.heap.size ≤ base → Up w0 w → Up w0 w') → K (a.put o.dst v') w') :
    if Region.wanted o (yielded ops a.tmps) = true then Oper.wp P o a w K Q else E := by
  rw [if_pos (by simp [Region.wanted, hgd])]
  exact wp_append_rd T s x ho hs hown n hx hn hr hbytes h63 hbase h
end Go.Proofs.YtjkpcfbmmkmoaaaGreat

/- impl.SortSides at three sides, walked at a world. -/
namespace Go.Proofs.YtjkpcfbmmkmoaaaGreat
set_option maxRecDepth 10000
open Go.RowKit Go.Lib Go.Sort
set_option linter.unusedVariables false
set_option linter.unusedSimpArgs false
set_option maxRecDepth 100000
set_option maxHeartbeats 4000000
theorem el_int3 : ElT Tryz.prog 23 3 (Enc.k Int) 8 := ElT.mk' (z := .int .i64 0) Tryz.underlying23 (by kernel_rfl) rfl
theorem flat_intsI (ls : List Int) : flat ls = ls.map (Value.int .i64) := by
  induction ls with
  | nil => rfl
  | cons x xs ih => rw [flat_cons, ih]; rfl
theorem own3 {w : World} {B : Nat} {v : Value} {xs : List Int} (h : Own w B 3 v xs) (hl : xs.length = 3) : ∃ g cap cur, v = .slice (some ⟨g, 0, none⟩) 3 cap ∧ B ≤ g ∧ w.heap[g]? = some (.cells cur 3 (0, 0)) ∧ 3 ≤ cap ∧ cap ≤ maxLen ∧ cur.size = cap * 1 ∧ cur.toList.take 3 = xs.map (Value.int .i64) := by
  rcases h.2 with ⟨_, h0⟩ | ⟨g, cap, cur, hv, hB, hg, hnc, hcm, hcs, ht⟩
  · omega
  · rw [hl] at hv hnc ht
    rw [flat_intsI] at ht
    exact ⟨g, cap, cur, hv, hB, hg, hnc, hcm, hcs, ht⟩
theorem rev_call (W : World) (sv : Value) : Calls Tryz.prog 225 #[.iface 252 sv] W fun e w' => e = .returned (.iface 267 (RP W.heap.size)) ∧ w' = W.alloc (.cells #[.iface 252 sv] 269) := by
  go_enter Tryz.func225, Tryz.ntmps225
  go_wp2
  go_ret
  exact ⟨rfl, rfl⟩
def srt3 (xs : List Int) : List Int := (Sort.insertionSort gtI xs.toArray 0 3).toList
theorem size_insInner (lt : Int → Int → Bool) (a : Nat) : ∀ (j : Nat) (d : Array Int), (insInner lt a j d).size = d.size
  | 0, d => rfl
  | j + 1, d => by
    unfold insInner
    split
    · rw [size_insInner lt a j, size_swp]
    · rfl
theorem size_insOuter (lt : Int → Int → Bool) (a b : Nat) : ∀ (n i : Nat) (d : Array Int), b - i ≤ n → (insOuter lt a b i d).size = d.size
  | 0, i, d, h => by rw [insOuter, if_neg (by omega)]
  | n + 1, i, d, h => by
    rw [insOuter]
    split
    · rw [size_insOuter lt a b n (i + 1) _ (by omega), size_insInner]
    · rfl
theorem srt3_len (xs : List Int) : (srt3 xs).length = xs.length := by
  unfold srt3 Sort.insertionSort
  rw [Array.length_toList, size_insOuter _ _ _ 3 _ _ (by omega)]
  simp
theorem sortSides_any (A : Option Addr) (xs : List Int) (c : Nat) (w : World) (hr : Rd w w.heap.size A xs) (hl : xs.length = 3) :
    Calls Tryz.prog 220 #[.slice A 3 c] w fun e w' => ∃ v, e = .returned v ∧ Own w' w.heap.size 3 v (srt3 xs) ∧ Up w w' := by
  go_enter Tryz.func220, Tryz.ntmps220
  go_wp2_with (at_builtin; refine wpList_append_rd el_int3 rfl (.tmp 4) (.tmp 5) rfl (base := w.heap.size) (ys := []) (by rfl) (Own.empty w _ _ 0 _ (Nat.le_refl _) (by unfold maxLen; omega) rfl) 3 (by rfl) hl.symm (hr.up (by (repeat (first | exact Up.rfl' _ | (refine Up.al _ ?_) | (refine Up.dr _ ?_) | (refine Up.dr1 ?_) | (refine Up.sc ?_ (by first | exact Nat.le_refl _ | (simp; done) | omega) _) | (refine Up.step (by assumption) ?_))))) (by simp; omega) (by unfold maxLen; simp; omega) (by first | (simp; done) | (simp; omega) | (have h_ := hB.size; omega) | (have h_ := hB.size; simp; omega)) ?_; intro v' w1 ho1 hg1 _ hu1; refine Hid.out ?_)
  refine Lib.hid ?_
  have ho : Own w1 w.heap.size 3 v' xs := by simpa using ho1
  have hu := hu1 w (Nat.le_refl _) (by (repeat (first | exact Up.rfl' _ | (refine Up.al _ ?_) | (refine Up.dr _ ?_) | (refine Up.dr1 ?_) | (refine Up.sc ?_ (by first | exact Nat.le_refl _ | (simp; done) | omega) _) | (refine Up.step (by assumption) ?_))))
  obtain ⟨g, cap, cur, rfl, hgB, hgh, h3, hcm, hcs, hct⟩ := own3 ho hl
  have hgl : g < w1.heap.size := (Array.getElem?_eq_some_iff.1 hgh).1
  have hRv := rev_call w1 (SV g 0 3 cap)
  have hg2 : ∀ o, (w1.alloc o).heap[g]? = some (.cells cur 3 (0, 0)) := fun o => (Below.block (Up.al o (Up.rfl' w1)) g hgl).trans hgh
  have hsz : ∀ o, (w1.alloc o).heap.size = w1.heap.size + 1 := fun o => by simp
  have hS : ∀ o, o = Obj.cells #[.iface 252 (SV g 0 3 cap)] 269 (0, 0) → _ := fun o ho => sortRev3 g 0 cap w1.heap.size xs.toArray (w1.alloc o) (holds_of_blockI (hg2 o) (by rw [hl]; exact hct)) (by rw [hsz]; omega) (by simp [hl]) (by subst ho; rw [cell_of_row _ _ 0 _ _ (0, 0) (heap_alloc_new w1 _)]; simp [hl]) (by rw [hsz]; omega) (by omega)
  have hS2 := hS _ rfl
  clear hS
  go_wp2_with (first
    | (go_at_call 225; refine hRv.mono ?_; rintro e w' ⟨rfl, rfl⟩)
    | (go_at_call 224; refine hS2.mono ?_; rintro e w' ⟨rfl, hSW⟩))
  go_ret
  obtain ⟨n, os, rfl⟩ := hSW
  have hlt : (srt3 xs).length = xs.length := srt3_len xs
  have hown := ownsRow_sortedI (n := n) (os := os) (ss := xs) (ts := srt3 xs) hlt hgB (hg2 (Obj.cells #[.iface 252 (SV g 0 3 cap)] 269 (0, 0))) (by omega) hcm hcs
  refine ⟨_, rfl, ?_, ?_⟩
  · unfold Own
    rw [hlt, flat_intsI]
    rw [hl] at hown ⊢
    unfold srt3 at hown ⊢
    exact hown
  · have hgr := grownBy_sortedI (w := w1.alloc (Obj.cells #[.iface 252 (SV g 0 3 cap)] 269 (0, 0))) (g := g) (n := n) (os := os) (Sort.insertionSort gtI xs.toArray 0 3)
    have hu2 := Up.al (Obj.cells #[.iface 252 (SV g 0 3 cap)] 269 (0, 0)) hu
    exact ⟨hgr.os.trans hu2.os, hgr.tape.trans hu2.tape, hgr.output.trans hu2.output, Nat.le_trans hu2.size hgr.size, fun b hb => (hgr.block b (Nat.lt_of_lt_of_le hb hu2.size) (by simp; omega)).trans (hu2.block b hb)⟩
end Go.Proofs.YtjkpcfbmmkmoaaaGreat

/- A fresh row at a world, as_ the result of a contract in plain values. -/
namespace Go.Proofs.YtjkpcfbmmkmoaaaGreat
set_option maxRecDepth 10000
open Go.RowKit
set_option linter.unusedVariables false
set_option linter.unusedSimpArgs false
/-- A fresh row of the call's own, as_ a result. -/
theorem ms_of_own {α : Type} [Enc α] {c : α → List PV} {T : TypeId} {S : Nat → Prop} {β : Nat → Option Blk} {w w' : World} {v : Value} {ys : List α} (hk : Ok w (own0 β) (E1 S β 0) w []) (ho : Own w' w.heap.size T v ys) (hu : Up w w')
    (hc : ∀ (x : α), (c x).length = Enc.k α ∧ ∀ (j : Nat) (p : PV), (c x)[j]? = some p → ∃ u, (Enc.cells x)[j]? = some u ∧ u.oneCell' = true ∧ ∀ (w : World) (E : Env), Rep w E p u) :
    ∃ E', Ok w (own0 β) E' w' [some ⟨T, Enc.k α, ys.map c⟩] ∧ (∀ b, S b → E'.S b) ∧ (∀ b, E'.S b → S b ∨ w.heap.size ≤ b ∨ own0 β b) ∧ (∀ l B, l < 0 → E'.β l = some B → β l = some B) ∧ Rep w' E' (.ms 0) v := by
  have hesl : ∀ (i : Nat) (cs : List PV), (ys.map c)[i]? = some cs → cs.length = Enc.k α := by
    intro i cs hi
    rw [List.getElem?_map] at hi
    obtain ⟨y, _, rfl⟩ := Option.map_eq_some_iff.1 hi
    exact (hc y).1
  have key : ∀ (B : Blk), v = B.sv → v.oneCell' = true → (B.z = false → w.heap.size ≤ B.b ∧ B.b < w'.heap.size) → (∀ E, BlkRep w' E ⟨T, Enc.k α, ys.map c⟩ B) →
      ∃ E', Ok w (own0 β) E' w' [some ⟨T, Enc.k α, ys.map c⟩] ∧ (∀ b, S b → E'.S b) ∧ (∀ b, E'.S b → S b ∨ w.heap.size ≤ b ∨ own0 β b) ∧ (∀ l B, l < 0 → E'.β l = some B → β l = some B) ∧ Rep w' E' (.ms 0) v := by
    intro B hv h1 hB hb
    obtain ⟨h2, _⟩ := hk.new (ν := 0) (fun h => absurd h (Nat.not_lt_zero 0)) ⟨T, Enc.k α, ys.map c⟩ B hu.os hu.tape hu.output hu.size (fun b hb => hu.block b hb) hB (fun _ => hb _)
    refine ⟨_, h2, fun b h => h, fun b h => .inl h, fun l B h => absurd h (Nat.not_lt_zero l), .ms 0 v (.inl rfl) h1 fun B' hB' => ?_⟩
    have : B' = B := by simpa [Env.add, eq_comm] using hB'
    rw [this]; exact hv
  rcases ho.2 with ⟨hv, h0⟩ | ⟨g, cap, cur, hv, hB, hg, hnc, hcm, hcs, ht⟩
  · have hy : ys = [] := List.length_eq_zero_iff.1 h0
    subst hy
    exact key ⟨0, 0, 0, Enc.k α, T, true⟩ (by rw [hv]; rfl) (by rw [hv]; rfl) (fun h => by cases h) fun E => ⟨rfl, rfl, rfl, Enc.pos, Nat.le_refl _, Nat.zero_le _, hesl, fun _ => rfl, fun h => by cases h⟩
  · refine key ⟨g, cap, ys.length, Enc.k α, T, false⟩ (by rw [hv]; rfl) (by rw [hv]; rfl) (fun _ => ⟨hB, (Array.getElem?_eq_some_iff.1 hg).1⟩) fun E => ⟨rfl, by simp, rfl, Enc.pos, hnc, hcm, hesl, (fun h => by cases h), fun _ => ⟨cur, hg, hcs, fun i cs j p hi hj => ?_⟩⟩
    rw [List.getElem?_map] at hi
    obtain ⟨y, hy, rfl⟩ := Option.map_eq_some_iff.1 hi
    obtain ⟨hl, hcc⟩ := hc y
    obtain ⟨u, hu1, hu2, hu3⟩ := hcc j p hj
    refine ⟨u, ?_, hu2, hu3 _ _⟩
    have hf := flat_at hy hu1
    have hlt := (List.getElem?_eq_some_iff.1 hf).1
    rw [flat_len] at hlt
    have := congrArg (fun l : List Value => l[i * Enc.k α + j]?) ht
    have h2 : (cur.toList.take (ys.length * Enc.k α))[i * Enc.k α + j]? = (flat ys)[i * Enc.k α + j]? := this
    rw [List.getElem?_take_of_lt hlt, Array.getElem?_toList, hf] at h2
    exact h2
end Go.Proofs.YtjkpcfbmmkmoaaaGreat

/- impl.SortSides at three sides: its mirror (by hand), and that the code does just that. -/
namespace Go.Proofs.YtjkpcfbmmkmoaaaGreat
set_option maxRecDepth 10000
open Go.RowKit Go.Lib
set_option linter.unusedVariables false
set_option linter.unusedSimpArgs false
def m_impl_SortSides (l : List Int) : Option (List Int) := if l.length = 3 then some (srt3 l) else none
theorem rd_ints {w : World} {S : Nat → Prop} {xs : List Int} {x : Value} (hsz : ∀ b, S b → b < w.heap.size) (h : RepC w S (.sl (xs.map cInt)) x) : ∃ A c, x = .slice A xs.length c ∧ xs.length ≤ c ∧ Rd w w.heap.size A xs := by
  generalize hq : PV.sl (xs.map cInt) = q at h
  cases h with
  | v x h => cases hq
  | ud => cases hq
  | un => cases hq
  | rp => cases hq
  | fn => cases hq
  | nil A c =>
    have : xs = [] := by simpa using hq
    exact ⟨A, c, by rw [this]; rfl, by rw [this]; simp, by rw [this]; exact Rd.nil_⟩
  | sl es b off k c u hS hkp hnc hm hes hcc h1 hrr =>
    obtain rfl : xs.map cInt = es := by simpa using hq
    refine ⟨_, c, by simp, by simpa using hnc, fun hne => ⟨b, off, rfl, hsz b hS, fun j u' hu' => ?_⟩⟩
    have hpos : 0 < xs.length := List.length_pos_iff.2 hne
    have hk1 : k = 1 := (hes 0 (cInt xs[0]) (by simp [hpos])).symm
    subst hk1
    rw [flat_intsI] at hu'
    rw [List.getElem?_map] at hu'
    obtain ⟨y, hy, rfl⟩ := Option.map_eq_some_iff.1 hu'
    have hj := (List.getElem?_eq_some_iff.1 hy).1
    have e1 : (xs.map cInt)[j]? = some (cInt y) := by rw [List.getElem?_map, hy]; rfl
    have hc := hcc j _ 0 (vi y) e1 rfl
    have hz := hrr j _ 0 (vi y) e1 rfl
    have hz' : u j 0 = .int .i64 y := by
      generalize hp : u j 0 = z at hz
      cases hz with
      | v _ _ => rfl
    rw [hz'] at hc
    rw [show off + j = off + j * 1 + 0 by omega]
    exact hc
theorem ok_impl_SortSides (l : List Int) {r : List Int} (H : m_impl_SortSides l = some r) : CallM Tryz.prog 220 [.sl (l.map cInt)] [] (.ms 0) [some ⟨3, 1, r.map cInt⟩] := by
  unfold m_impl_SortSides at H
  split at H
  case isFalse => cases H
  rename_i hl3
  obtain rfl := Option.some.inj H
  intro S β w vs hk hl ha
  obtain ⟨x, hx0, hr⟩ := ha 0 _ rfl
  have hv : vs = #[x] := by
    have h1 : vs.size = 1 := hl
    apply Array.ext (by simp [h1])
    intro i h2 h3
    have : i = 0 := by omega
    subst this
    have := (Array.getElem?_eq_some_iff.1 hx0).2
    simpa using this
  subst hv
  have hr0 : RepC w S (.sl (l.map cInt)) x := by cases hr with | c h => exact h
  obtain ⟨A, c, rfl, hcap, hrd⟩ := rd_ints hk.sz hr0
  rw [hl3]
  refine (sortSides_any A l c w hrd hl3).mono ?_
  rintro e w' ⟨v, rfl, ho, hu⟩
  obtain ⟨E', h1, h2, h3, h4, h5⟩ := ms_of_own (c := cInt) hk ho hu (fun x => ⟨rfl, fun j p hj => by
    cases j with
    | zero => obtain rfl : vi x = p := by simpa using hj
              exact ⟨_, rfl, rfl, fun w E => .c (.v _ rfl)⟩
    | succ j => simp [cInt] at hj⟩)
  exact ⟨v, E', rfl, h1, h2, h3, h4, h5⟩
instance (l : List Int) : CT Tryz.prog (m_impl_SortSides l) := ⟨220, [.sl (l.map cInt)], [], fun r => .ms 0, fun r => [some ⟨3, 1, r.map cInt⟩], ok_impl_SortSides l⟩
end Go.Proofs.YtjkpcfbmmkmoaaaGreat

/- A set of strings that a call keeps to itself; names without repeats. -/
namespace Go.Proofs.YtjkpcfbmmkmoaaaGreat
set_option maxRecDepth 10000
open Go.RowKit Go.Maps Go.WideMaps
set_option linter.unusedVariables false
set_option linter.unusedSimpArgs false
instance : Enc ByteArray where
  cells x := [.string x]
  k := 1
  len _ := rfl
  pos := by decide
  one := by simp [Value.oneCell']
theorem flat_strs (ls : List ByteArray) : flat ls = ls.map Value.string := by
  induction ls with
  | nil => rfl
  | cons x xs ih => rw [flat_cons, ih]; rfl
def inL (S : List ByteArray) (s : ByteArray) : Bool := S.any fun y => decide (y = s)
theorem inL_iff {S : List ByteArray} {s : ByteArray} : inL S s = true ↔ s ∈ S := by simp [inL]
theorem inL_snoc (S : List ByteArray) (s s' : ByteArray) : inL (S ++ [s]) s' = (inL S s' || decide (s = s')) := by simp [inL]
def dd (out : List ByteArray) (s : ByteArray) : List ByteArray := if inL out s = true then out else out ++ [s]
def namesOf (n : YNetwork) : List ByteArray := n.legs.flatMap fun l => [l.from_, l.to_]
theorem grown_cell {w w' : World} {row : Option Nat} (h : w.grownBy w' row) {b o : Nat} (hb : b < w.heap.size) (hne : some b ≠ row) : w'.cell? ⟨b, o, none⟩ = w.cell? ⟨b, o, none⟩ := by simp [World.cell?, h.block b hb hne]
theorem Rd.oneAt {α : Type} [Enc α] (w : World) (T : TypeId) (x : α) (H : Nat) (hH : w.heap.size = H) : Rd (w.alloc (.cells (Enc.cells x).toArray T)) (H + 1) (some ⟨H, 0, none⟩) [x] := by
  subst hH
  exact Rd.one w T x _ (Nat.lt_succ_self _)
theorem al_cell {w : World} {b o : Nat} {u : Value} {ob : Obj} (h : w.cell? ⟨b, o, none⟩ = some u) : (w.alloc ob).cell? ⟨b, o, none⟩ = some u :=
  ((Up.al ob (Up.rfl' w)).cell (p := ⟨b, o, none⟩) (World.block_lt_of_cell? _ _ h)).trans h
/-- Block b is a set of at most n strings: S. -/
def SetM (P : Program) (k e : TypeId) (w : World) (b n : Nat) (S : List ByteArray) : Prop :=
  ∃ D : DataW Unit, w.ownsMap P k (plainElem P e) b n D ∧ IsMap D ∧ ∀ s : ByteArray, D.atKey (.string s.data.toList) (.lit (.bool false)) = .lit (.bool (inL S s))
section
variable {P : Program} {k e : TypeId} {w : World} {b n : Nat} {S : List ByteArray}
theorem SetM.made (w : World) : SetM P k e (w.alloc (.map #[] 0)) w.heap.size 0 [] :=
  ⟨_, World.ownsMap_made w P k _, isMap_empty, fun s => by simp [DataW.atKey, inL]⟩
theorem SetM.kept {w' : World} {row : Option Nat} (h : SetM P k e w b n S) (hg : w.grownBy w' row) (hne : some b ≠ row) : SetM P k e w' b n S := by
  obtain ⟨D, h1, h2⟩ := h; exact ⟨D, h1.kept hg hne, h2⟩
theorem SetM.alloc (h : SetM P k e w b n S) (o : Obj) : SetM P k e (w.alloc o) b n S := by
  obtain ⟨D, h1, h2⟩ := h; exact ⟨D, h1.alloc o, h2⟩
theorem SetM.setCell (h : SetM P k e w b n S) {a : Addr} (ha : b ≠ a.block) (u : Value) : SetM P k e (w.setCell a u) b n S := by
  obtain ⟨D, h1, h2⟩ := h; exact ⟨D, h1.setCell ha u, h2⟩
theorem SetM.mono (h : SetM P k e w b n S) {n' : Nat} (hn : n ≤ n') : SetM P k e w b n' S := by
  obtain ⟨D, h1, h2⟩ := h; exact ⟨D, h1.mono hn, h2⟩
theorem SetM.lt (h : SetM P k e w b n S) : b < w.heap.size := by obtain ⟨D, h1, _⟩ := h; exact h1.lt
theorem lit_inj {a b : Bool} (h : (DataW.lit (.bool a) : DataW Unit) = .lit (.bool b)) : a = b := by simpa using h
theorem bool_inv (he : P.underlying e = some .bool) {v : Value} {z : DataW Unit × List MemPlace} (h : plainElem P e v = some z) : ∃ c, v = .bool c ∧ z = (.lit (.bool c), []) := by
  unfold plainElem at h
  rw [he] at h
  cases v <;> simp at h
  exact ⟨_, rfl, h.symm⟩
theorem wpList_lookup_set (w : World) {ops : Array Oper} {rest : List Oper} {o : Oper} {a : Act} {Q : Exit → Act → World → Prop}
    (hg : o.guard = none) (m x : Operand) (t : TypeId) (hop : o.op = Op.lookup t m x false)
    (k e : TypeId) (hk : P.underlying k = some .string) (ht : P.underlying t = some (.map k e)) (he : P.underlying e = some .bool) (hz : ∀ w, (zeroValue e).run P w = .ok (.bool false) w) (b n : Nat) (S : List ByteArray)
    (hm : a.eval m = .map (some b)) (hown : SetM P k e w b n S) (s : ByteArray) (hx : a.eval x = .string s) (hs : s.size ≤ maxLen) (c : Bool) (hc : inL S s = c)
    (hK : wpList P ops Q rest (a.put o.dst (.bool c)) w) :
    wpList P ops Q (o :: rest) a w := by
  refine wpList_plain hg fun K' hK' => ?_
  subst hc
  obtain ⟨D, h1, h2, h3⟩ := hown
  obtain ⟨v, ps, hrun, hv⟩ := h1.lookup (string_keyed hk) ht (hz w) (plainElem_bool he false) (keyOf_string_mk hk hs)
  obtain ⟨c, rfl, hc⟩ := bool_inv he hv
  simp only [Prod.mk.injEq] at hc
  have hcc : c = inL S s := lit_inj (hc.1.symm.trans (h3 s))
  subst hcc
  unfold Oper.wp
  simp [execOp, hop, hm, hx, hrun, Result.andThen]
  exact hK' _ _ hK
theorem wpList_update_set (w : World) {ops : Array Oper} {rest : List Oper} {o : Oper} {a : Act} {Q : Exit → Act → World → Prop}
    (hg : o.guard = none) (m x v : Operand) (t : TypeId) (hop : o.op = Op.mapUpdate t m x v)
    (k e : TypeId) (hk : P.underlying k = some .string) (ht : P.underlying t = some (.map k e)) (he : P.underlying e = some .bool) (b n : Nat) (S : List ByteArray)
    (hm : a.eval m = .map (some b)) (hown : SetM P k e w b n S) (hn : n < maxLen) (s : ByteArray) (hx : a.eval x = .string s) (hv : a.eval v = .bool true) (hs : s.size ≤ maxLen)
    (hK : ∀ w', SetM P k e w' b (n + 1) (S ++ [s]) → w.grownBy w' (some b) → wpList P ops Q rest (a.put o.dst undef) w') :
    wpList P ops Q (o :: rest) a w := by
  refine wpList_plain hg fun K' hK' => ?_
  obtain ⟨D, h1, h2, h3⟩ := hown
  obtain ⟨w', hrun, r1, r2⟩ := h1.update (string_keyed hk) ht hn (keyOf_string_mk hk hs) (plainElem_bool (H := Unit) he true)
  unfold Oper.wp
  simp [execOp, hop, hm, hx, hv, hrun, Result.andThen]
  refine hK' _ _ (hK w' ⟨_, r1, h2.put _ _, fun s' => ?_⟩ r2)
  by_cases e : s' = s
  · subst e
    rw [atKey_put_same h2 (by simp [WideAt.IsKeyLit])]
    rw [inL_snoc]; simp
  · rw [atKey_put_other (by intro h; simp at h; exact e (by obtain ⟨⟨x⟩⟩ := s'; obtain ⟨⟨y⟩⟩ := s; simpa using h)), h3 s', inL_snoc, decide_eq_false (fun h => e h.symm), Bool.or_false]
end
end Go.Proofs.YtjkpcfbmmkmoaaaGreat

/- sort.Strings, on an own row. -/
namespace Go.Proofs.YtjkpcfbmmkmoaaaGreat
set_option maxRecDepth 10000
open Go.RowKit
set_option linter.unusedVariables false
set_option linter.unusedSimpArgs false
def srtS (xs : List ByteArray) : List ByteArray := ((xs.map fun b : ByteArray => b.data.toList).mergeSort fun x y => decide (x ≤ y)).map fun l => ⟨l.toArray⟩
theorem srtS_len (xs : List ByteArray) : (srtS xs).length = xs.length := by simp [srtS]
theorem sortStrings_ok {xs : List ByteArray} (hx : xs.length < 4611686018427387904) : CallM Tryz.prog 201 [.ms 0] [some ⟨9, 1, xs.map cStr⟩] (.tu []) [some ⟨9, 1, (srtS xs).map cStr⟩] := by
  intro S β w vs hk hl ha
  obtain ⟨x, hx0, hr⟩ := ha 0 _ rfl
  obtain ⟨B, hB, hb, rfl⟩ := hr.ms_inv hk (l := 0) rfl
  have hv : vs = #[B.sv] := by
    have h1 : vs.size = 1 := hl
    apply Array.ext (by simp [h1])
    intro i h2 h3
    have : i = 0 := by omega
    subst this
    have := (Array.getElem?_eq_some_iff.1 hx0).2
    simpa using this
  subst hv
  have hn : B.n = xs.length := by have := hb.n; simpa using this
  have hT := hb.T
  have hkk := hb.k
  simp only at hT hkk
  cases hz : B.z with
  | true =>
    have h0 : xs = [] := by have := hb.nil hz; simpa using this
    subst h0
    have hsv : B.sv = .slice none 0 0 := by simp [Blk.sv, hz]
    rw [hsv]
    refine (Tryz.sort_Strings_none none 0 w).mono ?_
    rintro e w' ⟨rfl, rfl⟩
    have e0 : srtS [] = [] := by simp [srtS]
    rw [e0]
    exact ⟨_, E1 S β 1, rfl, hk, fun b h => h, fun b h => .inl h, fun l B _ h => h, .tu _ _ (by simp) (by simp)⟩
  | false =>
    have hsv : B.sv = .slice (some ⟨B.b, 0, none⟩) xs.length B.c := by simp [Blk.sv, hz, hn]
    rw [hsv]
    obtain ⟨cells, hc, hcs, hcell⟩ := hb.mem hz
    have hss : (xs.map fun b : ByteArray => b.data.toList).length = xs.length := by simp
    have ht : cells.toList.take (xs.map fun b : ByteArray => b.data.toList).length = (xs.map fun b : ByteArray => b.data.toList).map encStr := by
      apply List.ext_getElem?
      intro i
      rcases Nat.lt_or_ge i xs.length with hi | hi
      · rw [List.getElem?_take_of_lt (by simpa using hi)]
        obtain ⟨y, y1, _, y3⟩ := hcell i [vs xs[i]] 0 (vs xs[i]) (by simp [hi]) rfl
        rw [hkk] at y1
        obtain ⟨rfl, _⟩ := y3.v_inv
        simp only [Nat.mul_one, Nat.add_zero] at y1
        rw [Array.getElem?_toList, y1]
        simp [hi]
      · rw [List.getElem?_eq_none (by simp; omega), List.getElem?_eq_none (by simpa using hi)]
    have hlt : B.b < w.heap.size := (Array.getElem?_eq_some_iff.1 hc).1
    have key := Tryz.sort_Strings B.b 0 B.c (xs.map fun b : ByteArray => b.data.toList) w (holds_of_block hc ht) hlt (by simpa using hx)
    rw [hss] at key
    refine key.mono ?_
    rintro e w' ⟨rfl, n, os, rfl⟩
    have hg := grownBy_sorted (w := w) (g := B.b) (n := n) (os := os) ((xs.map fun b : ByteArray => b.data.toList).mergeSort fun x y => decide (x ≤ y)).toArray
    have hh := heap_sorted (n := n) (os := os) ((xs.map fun b : ByteArray => b.data.toList).mergeSort fun x y => decide (x ≤ y)).toArray hc
    generalize Go.Sort.grow (Go.Sort.putRow encStr (Go.Sort.ahead w n) B.b 0 ((xs.map fun b : ByteArray => b.data.toList).mergeSort fun x y => decide (x ≤ y)).toArray) os = w' at hg hh
    obtain ⟨g1, g2, g3, g4, g5⟩ := hg
    refine ⟨_, E1 S β 1, rfl, ⟨⟨g1, g2, g3, g4, fun b hb1 hb2 => g5 b hb1 fun e => hb2 ⟨0, B, hB, hz, by simpa using e.symm⟩⟩, fun b h => Nat.lt_of_lt_of_le (hk.sz b h) g4, fun l B' h1 h2 => ?_, hk.inj, hk.used, hk.bu, fun l mb hm => ?_, fun l B' h1 => ?_, hk.tab⟩, fun b h => h, fun b h => .inl h, fun l B _ h => h, .tu _ _ (by simp) (by simp)⟩
    · obtain ⟨a, b, c⟩ := hk.own l B' h1 h2
      exact ⟨a, Nat.lt_of_lt_of_le b g4, c⟩
    · cases l with
      | succ l => simp at hm
      | zero =>
        obtain rfl : _ = mb := by simpa using hm
        refine ⟨B, hB, hkk, by rw [hn]; simp [srtS_len], hT, hb.pos, hb.nc, hb.cm, fun i cs hi => ?_, fun h => (by rw [hz] at h; cases h), fun _ => ⟨_, hh, ?_, fun i cs j p hi hj => ?_⟩⟩
        · rw [List.getElem?_map] at hi
          obtain ⟨y, _, rfl⟩ := Option.map_eq_some_iff.1 hi
          rw [hkk]; rfl
        · rw [← hcs]; simp [Go.Sort.putCells]
        · rw [List.getElem?_map] at hi
          obtain ⟨y, hy, rfl⟩ := Option.map_eq_some_iff.1 hi
          cases j with
          | succ j => simp at hj
          | zero =>
            obtain rfl : vs y = p := by simpa using hj
            have hi' := (List.getElem?_eq_some_iff.1 hy).1
            rw [srtS_len] at hi'
            refine ⟨.string y, ?_, rfl, .c (.v _ rfl)⟩
            have htk := take_putCells cells ((xs.map fun b : ByteArray => b.data.toList).mergeSort fun x y => decide (x ≤ y)) (by have := hb.nc; rw [hkk] at hcs; simp; omega)
            have := congrArg (fun l => l[i]?) htk

            rw [List.getElem?_take_of_lt (by simpa using hi'), Array.getElem?_toList, List.getElem?_map] at this
            rw [hkk, Nat.mul_one, Nat.add_zero, this]
            unfold srtS at hy
            rw [List.getElem?_map] at hy
            obtain ⟨z, hz2, rfl⟩ := Option.map_eq_some_iff.1 hy
            rw [hz2]; rfl
    · obtain ⟨mb, hm⟩ := hk.dom l B' h1
      cases l with
      | succ l => simp at hm
      | zero => exact ⟨_, rfl⟩
end Go.Proofs.YtjkpcfbmmkmoaaaGreat

/- impl.PlacesOf, walked in memory: the names without repeats (a set that the call keeps to itself), sorted. -/
namespace Go.Proofs.YtjkpcfbmmkmoaaaGreat
set_option maxRecDepth 10000
open Go.RowKit Go.Maps Go.WideMaps Go.Sort
set_option linter.unusedVariables false
set_option linter.unusedSimpArgs false
instance : Enc YLeg where
  cells x := [.string x.from_, .string x.to_, I x.start, I x.takes, I x.days, I x.room]
  k := 6
  len _ := rfl
  pos := by decide
  one := by simp [Value.oneCell', I]
theorem Rd.leg {w : World} {B : Nat} {A : Option Addr} {xs : List YLeg} {i : Nat} {x : YLeg} (h : Rd w B A xs) (hx : xs[i]? = some x) :
    ∃ b off, A = some ⟨b, off, none⟩ ∧ b < B ∧ w.cell? ⟨b, off + i * 6, none⟩ = some (.string x.from_) ∧ w.cell? ⟨b, off + i * 6 + 1, none⟩ = some (.string x.to_) ∧ w.cell? ⟨b, off + i * 6 + 2, none⟩ = some (I x.start) ∧ w.cell? ⟨b, off + i * 6 + 3, none⟩ = some (I x.takes) ∧ w.cell? ⟨b, off + i * 6 + 4, none⟩ = some (I x.days) ∧ w.cell? ⟨b, off + i * 6 + 5, none⟩ = some (I x.room) := by
  obtain ⟨b, off, e, hb, hc⟩ := h.at_ hx
  exact ⟨b, off, e, hb, hc 0 _ rfl, hc 1 _ rfl, hc 2 _ rfl, hc 3 _ rfl, hc 4 _ rfl, hc 5 _ rfl⟩
theorem info_str : (Tryz.prog.info? 9).map (fun i => (i.zero, i.size, i.bytes)) = some (some (Value.string ⟨#[]⟩), 1, 16) := by kernel_rfl
theorem el_str : ElT Tryz.prog 182 9 (Enc.k ByteArray) 16 := ElT.mk' Tryz.underlying182 info_str rfl
theorem zero_bool (w : World) : (zeroValue 4).run Tryz.prog w = .ok (.bool false) w := by kernel_rfl
/-- The names of the first i legs, without repeats. -/
def nmI (legs : List YLeg) (i : Nat) : List ByteArray := (legs.take i).foldl (fun out l => dd (dd out l.from_) l.to_) []
theorem nmI_next {legs : List YLeg} {i : Nat} {x : YLeg} (hx : legs[i]? = some x) : nmI legs (i + 1) = dd (dd (nmI legs i) x.from_) x.to_ := by
  unfold nmI
  rw [foldl_snoc hx]
theorem dd_len (out : List ByteArray) (s : ByteArray) : (dd out s).length ≤ out.length + 1 := by unfold dd; split <;> simp
theorem nmI_len (legs : List YLeg) (i : Nat) : (nmI legs i).length ≤ 2 * i := by
  have h : ∀ (b : List YLeg) (out : List ByteArray), (b.foldl (fun out l => dd (dd out l.from_) l.to_) out).length ≤ out.length + 2 * b.length := by
    intro b
    induction b with
    | nil => intro out; simp
    | cons x b ih =>
      intro out
      have h1 := ih (dd (dd out x.from_) x.to_)
      have h2 := dd_len (dd out x.from_) x.to_
      have h3 := dd_len out x.from_
      simp only [List.foldl_cons, List.length_cons]
      omega
  have h1 := h (legs.take i) []
  have h2 : (legs.take i).length ≤ i := List.length_take_le _ _
  simp only [List.length_nil] at h1
  unfold nmI
  omega
theorem sortStr_any (g cp n B : Nat) (zs : List ByteArray) (w : World) (ho : Own w B 9 (.slice (some ⟨g, 0, none⟩) n cp) zs) (hl : n = zs.length) (hn : n ≤ 4194304) :
    Calls Tryz.prog 201 #[.slice (some ⟨g, 0, none⟩) n cp] w fun e w' => e = .returned (.tuple #[]) ∧ Own w' B 9 (.slice (some ⟨g, 0, none⟩) n cp) (srtS zs) ∧ w.grownBy w' (some g) := by
  subst hl
  rcases ho.2 with ⟨h0, _⟩ | ⟨g', cap', cur, hv, hB, hg, hnc, hcm, hcs, ht⟩
  · cases h0
  · obtain ⟨rfl, rfl⟩ : g = g' ∧ cp = cap' := by simpa using hv
    have hss : (zs.map fun b : ByteArray => b.data.toList).length = zs.length := by simp
    have ht' : cur.toList.take (zs.map fun b : ByteArray => b.data.toList).length = (zs.map fun b : ByteArray => b.data.toList).map encStr := by
      have := ht
      rw [show Enc.k ByteArray = 1 from rfl, Nat.mul_one, flat_strs] at this
      rw [hss, this, List.map_map]
      apply List.map_congr_left
      intro b _
      rfl
    have hH := holds_of_block hg ht'
    have key := Tryz.sort_Strings g 0 cp _ w hH (Array.getElem?_eq_some_iff.1 hg).1 (by rw [hss]; omega)
    rw [hss] at key
    refine key.mono ?_
    rintro e w' ⟨rfl, m, os, rfl⟩
    have hs := ownsRow_sorted (n := m) (os := os) (ss := zs.map fun b : ByteArray => b.data.toList) (ts := (zs.map fun b : ByteArray => b.data.toList).mergeSort fun x y => decide (x ≤ y)) (by simp) hB hg (by simpa using hnc) hcm hcs
    refine ⟨rfl, ?_, grownBy_sorted _⟩
    unfold Own
    rw [srtS_len, flat_strs]
    rw [hss] at hs
    have e2 : (srtS zs).map Value.string = ((zs.map fun b : ByteArray => b.data.toList).mergeSort fun x y => decide (x ≤ y)).map encStr := by
      unfold srtS; rw [List.map_map]; rfl
    rw [e2]
    exact hs
set_option maxRecDepth 100000 in
theorem places_walk (A : Option Addr) (legs : List YLeg) (n c : Nat) (v2 v3 : Value) (w : World) (hr : Rd w w.heap.size A legs) (hl : n = legs.length) (hc : legs.length ≤ c) (hn : n ≤ 1048576) (hs : ∀ l ∈ legs, l.from_.size ≤ maxLen ∧ l.to_.size ≤ maxLen) :
    Calls Tryz.prog 135 #[.agg #[.slice A n c, v2, v3]] w fun e w' => ∃ v, e = .returned v ∧ Own w' w.heap.size 9 v (srtS (nmI legs legs.length)) ∧ Up w w' := by
  subst hl
  have hmm := @run_makeMap Tryz.prog
  go_enter Tryz.func135, Tryz.ntmps135
  go_wp2
  go_loopw [4, 14] (fun v i wr => ∃ j g cp : Nat, j ≤ legs.length ∧ i = .int .i64 j ∧ v = .slice (some ⟨g, 0, none⟩) (nmI legs j).length cp ∧ Own wr (w.heap.size + 2) 9 (.slice (some ⟨g, 0, none⟩) (nmI legs j).length cp) (nmI legs j) ∧ SetM Tryz.prog 9 4 wr (w.heap.size + 1) (2 * j) (nmI legs j) ∧ Up w wr) (fun _ i _ => legs.length - (intOf i).toNat)
  case atStart => exact ⟨0, w.heap.size + 1 + 1, 0, by omega, rfl, rfl, by have h_ := Own.empty (α := ByteArray) ((w.alloc (.cells #[.slice A legs.length c, v2, v3] 43)).alloc (.map #[] 0)) (w.heap.size + 2) 9 0 #[] (by simp) (by unfold maxLen; omega) rfl; simpa [nmI] using h_, by have h_ := (SetM.made (P := Tryz.prog) (k := 9) (e := 4) (w.alloc (.cells #[.slice A legs.length c, v2, v3] 43))).alloc (.cells #[] 9); simpa [nmI] using h_, by (repeat (first | exact Up.rfl' _ | (refine Up.al _ ?_) | (refine Up.dr _ ?_) | (refine Up.dr1 ?_) | (refine Up.sc ?_ (by first | exact Nat.le_refl _ | (simp; done) | omega) _) | (refine Up.step (by assumption) ?_)))⟩
  case round =>
    obtain ⟨i, g3, c3', hi, rfl, rfl, ho, hset, hb⟩ := hrel
    by_cases hlt : i < legs.length
    · obtain ⟨x, hx⟩ := get_of_lt hlt
      obtain ⟨b, off, rfl, hbb, c0, c1, c2, c3, c4, c5⟩ := (hr.below hb).leg hx
      have hlen := nmI_len legs i
      obtain ⟨hs1, hs2⟩ := hs x (List.mem_of_getElem? hx)
      have hgl := World.ownsRow.lt ho g3 rfl
      have HO := Lib.hid ho
      have HS := Lib.hid hset
      clear ho hset
      go_wp2_with fail
      generalize hwb : (wr.alloc _).alloc _ = wb
      have d0 : wb.cell? ⟨wr.heap.size + 1, 0, none⟩ = some (.string x.from_) := by rw [← hwb]; simp [go_sem]
      have d1 : wb.cell? ⟨wr.heap.size + 1, 1, none⟩ = some (.string x.to_) := by rw [← hwb]; simp [go_sem]
      have hub : Up wr wb := by rw [← hwb]; (repeat (first | exact Up.rfl' _ | (refine Up.al _ ?_) | (refine Up.dr _ ?_) | (refine Up.dr1 ?_) | (refine Up.sc ?_ (by first | exact Nat.le_refl _ | (simp; done) | omega) _) | (refine Up.step (by assumption) ?_)))
      have hsz : wr.heap.size + 2 ≤ wb.heap.size := by rw [← hwb]; simp
      have HS0 : Hid (SetM Tryz.prog 9 4 wb (w.heap.size + 1) (2 * i) (nmI legs i)) := Lib.hid (by rw [← hwb]; exact (HS.out.alloc _).alloc _)
      have HO0 := Lib.hid (HO.out.up hub)
      have hb0 : Up w wb := Up.step hub hb
      clear hwb c0 c1 c2 c3 c4 c5 HS HO
      have hw0 := hb.size
      have hx1 := nmI_next hx
      have hc0 := hb0
      cases h1 : inL (nmI legs i) x.from_ with
      | false =>
        cases h2 : inL (nmI legs i ++ [x.from_]) x.to_ with
        | false =>
          refine wp_loop_rounds 3 ?_
          rw [rounds_succ]
          go_wp2_with (first | (at_builtin; (have ho_ := HP2.out); go_loud (refine wpList_append_rd el_str rfl (.tmp 34) (.tmp 36) rfl (base := w.heap.size + 2) (ys := (nmI legs i ++ [x.from_])) (xs := [x.to_]) (by rfl) (ho_.up (by (repeat (first | exact Up.rfl' _ | (refine Up.al _ ?_) | (refine Up.dr _ ?_) | (refine Up.dr1 ?_) | (refine Up.sc ?_ (by first | exact Nat.le_refl _ | (simp; done) | omega) _) | (refine Up.step (by assumption) ?_))))) 1 (by rfl) rfl (Rd.oneAt _ _ (x.to_) _ (by simp)) (by simp; omega) (by unfold maxLen; simp; omega) (by simp; omega) ?_); intro v2 w2 ho2 hg_ _ hu_; go_loud (have HS2 := Lib.hid ((HT2.out.alloc _).kept hg_ (by intro hh; have h_ := World.ownsRow.lt ho_ _ hh.symm; omega)); have hc2 : Up w w2 := Below.grown (Up.al _ hd2) hg_ (by simp; omega) (fun k e => by have h_ := World.ownsRow.lt ho_ _ e; omega); have hz2b : w2a.heap.size + 1 ≤ w2.heap.size := (by have h_ := hg_.size; simpa using h_); have HO2 := Lib.hid ho2); clear ho2 ho_ hg_ hu_ HT2 HP2) | (at_mapUpdate; (have h_ := HS1.out); go_loud (refine wpList_update_set _ rfl _ _ _ 239 rfl 9 4 Tryz.underlying9 Tryz.underlying239 Tryz.underlying4 (w.heap.size + 1) (2 * i + 1) (nmI legs i ++ [x.from_]) rfl HS1.out (by unfold maxLen; omega) _ rfl rfl hs2 ?_); intro w2a hs_ hg_; go_loud (have HT2 := Lib.hid hs_; clear hs_; have HP2 := Lib.hid (HO1.out.grown hg_ (.inr (by intro hh; have h_ := World.ownsRow.lt HO1.out _ hh; omega))); have hd2 : Up w w2a := Below.grown hc1 hg_ hc1.size (fun k e => by cases e; omega); have hz2 := hg_.size; have hp2 := Nat.le_trans hc1.size hg_.size); clear hg_) | (at_lookup; have h_ := HS1.out; (refine wpList_lookup_set _ rfl _ _ 239 rfl 9 4 Tryz.underlying9 Tryz.underlying239 Tryz.underlying4 zero_bool (w.heap.size + 1) (2 * i + 1) (nmI legs i ++ [x.from_]) rfl HS1.out _ rfl hs2 _ h2 ?_)) | (at_builtin; (have ho_ := HP1.out); go_loud (refine wpList_append_rd el_str rfl (.tmp 34) (.tmp 36) rfl (base := w.heap.size + 2) (ys := (nmI legs i)) (xs := [x.from_]) (by rfl) (ho_.up (by (repeat (first | exact Up.rfl' _ | (refine Up.al _ ?_) | (refine Up.dr _ ?_) | (refine Up.dr1 ?_) | (refine Up.sc ?_ (by first | exact Nat.le_refl _ | (simp; done) | omega) _) | (refine Up.step (by assumption) ?_))))) 1 (by rfl) rfl (Rd.oneAt _ _ (x.from_) _ (by simp)) (by simp; omega) (by unfold maxLen; simp; omega) (by simp; omega) ?_); intro v1 w1 ho1 hg_ _ hu_; go_loud (have HS1 := Lib.hid ((HT1.out.alloc _).kept hg_ (by intro hh; have h_ := World.ownsRow.lt ho_ _ hh.symm; omega)); have hc1 : Up w w1 := Below.grown (Up.al _ hd1) hg_ (by simp; omega) (fun k e => by have h_ := World.ownsRow.lt ho_ _ e; omega); have d2 := (grown_cell hg_ (by simp; omega) (by intro hh; have h3_ : wr.heap.size + 1 = g3 := Option.some.inj hh; omega)).trans (al_cell dz1); have hz1b : w1a.heap.size + 1 ≤ w1.heap.size := (by have h_ := hg_.size; simpa using h_); have HO1 := Lib.hid ho1); clear ho1 ho_ hg_ hu_ HT1 HP1) | (at_mapUpdate; (have h_ := HS0.out); go_loud (refine wpList_update_set _ rfl _ _ _ 239 rfl 9 4 Tryz.underlying9 Tryz.underlying239 Tryz.underlying4 (w.heap.size + 1) (2 * i) (nmI legs i) rfl HS0.out (by unfold maxLen; omega) _ rfl rfl hs1 ?_); intro w1a hs_ hg_; go_loud (have HT1 := Lib.hid hs_; clear hs_; have HP1 := Lib.hid (HO0.out.grown hg_ (.inr (by intro hh; have h_ := World.ownsRow.lt HO0.out _ hh; omega))); have hd1 : Up w w1a := Below.grown hc0 hg_ hc0.size (fun k e => by cases e; omega); have hz1 := hg_.size; have dz1 := (grown_cell hg_ (by omega) (by intro hh; injection hh with hh; omega)).trans d1; have hp1 := Nat.le_trans hc0.size hg_.size); clear hg_) | (at_lookup; have h_ := HS0.out; (refine wpList_lookup_set _ rfl _ _ 239 rfl 9 4 Tryz.underlying9 Tryz.underlying239 Tryz.underlying4 zero_bool (w.heap.size + 1) (2 * i) (nmI legs i) rfl HS0.out _ rfl hs1 _ h1 ?_)))
          rw [rounds_succ]
          go_wp2_with (first | (at_builtin; (have ho_ := HP2.out); go_loud (refine wpList_append_rd el_str rfl (.tmp 34) (.tmp 36) rfl (base := w.heap.size + 2) (ys := (nmI legs i ++ [x.from_])) (xs := [x.to_]) (by rfl) (ho_.up (by (repeat (first | exact Up.rfl' _ | (refine Up.al _ ?_) | (refine Up.dr _ ?_) | (refine Up.dr1 ?_) | (refine Up.sc ?_ (by first | exact Nat.le_refl _ | (simp; done) | omega) _) | (refine Up.step (by assumption) ?_))))) 1 (by rfl) rfl (Rd.oneAt _ _ (x.to_) _ (by simp)) (by simp; omega) (by unfold maxLen; simp; omega) (by simp; omega) ?_); intro v2 w2 ho2 hg_ _ hu_; go_loud (have HS2 := Lib.hid ((HT2.out.alloc _).kept hg_ (by intro hh; have h_ := World.ownsRow.lt ho_ _ hh.symm; omega)); have hc2 : Up w w2 := Below.grown (Up.al _ hd2) hg_ (by simp; omega) (fun k e => by have h_ := World.ownsRow.lt ho_ _ e; omega); have hz2b : w2a.heap.size + 1 ≤ w2.heap.size := (by have h_ := hg_.size; simpa using h_); have HO2 := Lib.hid ho2); clear ho2 ho_ hg_ hu_ HT2 HP2) | (at_mapUpdate; (have h_ := HS1.out); go_loud (refine wpList_update_set _ rfl _ _ _ 239 rfl 9 4 Tryz.underlying9 Tryz.underlying239 Tryz.underlying4 (w.heap.size + 1) (2 * i + 1) (nmI legs i ++ [x.from_]) rfl HS1.out (by unfold maxLen; omega) _ rfl rfl hs2 ?_); intro w2a hs_ hg_; go_loud (have HT2 := Lib.hid hs_; clear hs_; have HP2 := Lib.hid (HO1.out.grown hg_ (.inr (by intro hh; have h_ := World.ownsRow.lt HO1.out _ hh; omega))); have hd2 : Up w w2a := Below.grown hc1 hg_ hc1.size (fun k e => by cases e; omega); have hz2 := hg_.size; have hp2 := Nat.le_trans hc1.size hg_.size); clear hg_) | (at_lookup; have h_ := HS1.out; (refine wpList_lookup_set _ rfl _ _ 239 rfl 9 4 Tryz.underlying9 Tryz.underlying239 Tryz.underlying4 zero_bool (w.heap.size + 1) (2 * i + 1) (nmI legs i ++ [x.from_]) rfl HS1.out _ rfl hs2 _ h2 ?_)) | (at_builtin; (have ho_ := HP1.out); go_loud (refine wpList_append_rd el_str rfl (.tmp 34) (.tmp 36) rfl (base := w.heap.size + 2) (ys := (nmI legs i)) (xs := [x.from_]) (by rfl) (ho_.up (by (repeat (first | exact Up.rfl' _ | (refine Up.al _ ?_) | (refine Up.dr _ ?_) | (refine Up.dr1 ?_) | (refine Up.sc ?_ (by first | exact Nat.le_refl _ | (simp; done) | omega) _) | (refine Up.step (by assumption) ?_))))) 1 (by rfl) rfl (Rd.oneAt _ _ (x.from_) _ (by simp)) (by simp; omega) (by unfold maxLen; simp; omega) (by simp; omega) ?_); intro v1 w1 ho1 hg_ _ hu_; go_loud (have HS1 := Lib.hid ((HT1.out.alloc _).kept hg_ (by intro hh; have h_ := World.ownsRow.lt ho_ _ hh.symm; omega)); have hc1 : Up w w1 := Below.grown (Up.al _ hd1) hg_ (by simp; omega) (fun k e => by have h_ := World.ownsRow.lt ho_ _ e; omega); have d2 := (grown_cell hg_ (by simp; omega) (by intro hh; have h3_ : wr.heap.size + 1 = g3 := Option.some.inj hh; omega)).trans (al_cell dz1); have hz1b : w1a.heap.size + 1 ≤ w1.heap.size := (by have h_ := hg_.size; simpa using h_); have HO1 := Lib.hid ho1); clear ho1 ho_ hg_ hu_ HT1 HP1) | (at_mapUpdate; (have h_ := HS0.out); go_loud (refine wpList_update_set _ rfl _ _ _ 239 rfl 9 4 Tryz.underlying9 Tryz.underlying239 Tryz.underlying4 (w.heap.size + 1) (2 * i) (nmI legs i) rfl HS0.out (by unfold maxLen; omega) _ rfl rfl hs1 ?_); intro w1a hs_ hg_; go_loud (have HT1 := Lib.hid hs_; clear hs_; have HP1 := Lib.hid (HO0.out.grown hg_ (.inr (by intro hh; have h_ := World.ownsRow.lt HO0.out _ hh; omega))); have hd1 : Up w w1a := Below.grown hc0 hg_ hc0.size (fun k e => by cases e; omega); have hz1 := hg_.size; have dz1 := (grown_cell hg_ (by omega) (by intro hh; injection hh with hh; omega)).trans d1; have hp1 := Nat.le_trans hc0.size hg_.size); clear hg_) | (at_lookup; have h_ := HS0.out; (refine wpList_lookup_set _ rfl _ _ 239 rfl 9 4 Tryz.underlying9 Tryz.underlying239 Tryz.underlying4 zero_bool (w.heap.size + 1) (2 * i) (nmI legs i) rfl HS0.out _ rfl hs1 _ h1 ?_)))
          rw [rounds_succ]
          go_wp2_with (first | (at_builtin; (have ho_ := HP2.out); go_loud (refine wpList_append_rd el_str rfl (.tmp 34) (.tmp 36) rfl (base := w.heap.size + 2) (ys := (nmI legs i ++ [x.from_])) (xs := [x.to_]) (by rfl) (ho_.up (by (repeat (first | exact Up.rfl' _ | (refine Up.al _ ?_) | (refine Up.dr _ ?_) | (refine Up.dr1 ?_) | (refine Up.sc ?_ (by first | exact Nat.le_refl _ | (simp; done) | omega) _) | (refine Up.step (by assumption) ?_))))) 1 (by rfl) rfl (Rd.oneAt _ _ (x.to_) _ (by simp)) (by simp; omega) (by unfold maxLen; simp; omega) (by simp; omega) ?_); intro v2 w2 ho2 hg_ _ hu_; go_loud (have HS2 := Lib.hid ((HT2.out.alloc _).kept hg_ (by intro hh; have h_ := World.ownsRow.lt ho_ _ hh.symm; omega)); have hc2 : Up w w2 := Below.grown (Up.al _ hd2) hg_ (by simp; omega) (fun k e => by have h_ := World.ownsRow.lt ho_ _ e; omega); have hz2b : w2a.heap.size + 1 ≤ w2.heap.size := (by have h_ := hg_.size; simpa using h_); have HO2 := Lib.hid ho2); clear ho2 ho_ hg_ hu_ HT2 HP2) | (at_mapUpdate; (have h_ := HS1.out); go_loud (refine wpList_update_set _ rfl _ _ _ 239 rfl 9 4 Tryz.underlying9 Tryz.underlying239 Tryz.underlying4 (w.heap.size + 1) (2 * i + 1) (nmI legs i ++ [x.from_]) rfl HS1.out (by unfold maxLen; omega) _ rfl rfl hs2 ?_); intro w2a hs_ hg_; go_loud (have HT2 := Lib.hid hs_; clear hs_; have HP2 := Lib.hid (HO1.out.grown hg_ (.inr (by intro hh; have h_ := World.ownsRow.lt HO1.out _ hh; omega))); have hd2 : Up w w2a := Below.grown hc1 hg_ hc1.size (fun k e => by cases e; omega); have hz2 := hg_.size; have hp2 := Nat.le_trans hc1.size hg_.size); clear hg_) | (at_lookup; have h_ := HS1.out; (refine wpList_lookup_set _ rfl _ _ 239 rfl 9 4 Tryz.underlying9 Tryz.underlying239 Tryz.underlying4 zero_bool (w.heap.size + 1) (2 * i + 1) (nmI legs i ++ [x.from_]) rfl HS1.out _ rfl hs2 _ h2 ?_)) | (at_builtin; (have ho_ := HP1.out); go_loud (refine wpList_append_rd el_str rfl (.tmp 34) (.tmp 36) rfl (base := w.heap.size + 2) (ys := (nmI legs i)) (xs := [x.from_]) (by rfl) (ho_.up (by (repeat (first | exact Up.rfl' _ | (refine Up.al _ ?_) | (refine Up.dr _ ?_) | (refine Up.dr1 ?_) | (refine Up.sc ?_ (by first | exact Nat.le_refl _ | (simp; done) | omega) _) | (refine Up.step (by assumption) ?_))))) 1 (by rfl) rfl (Rd.oneAt _ _ (x.from_) _ (by simp)) (by simp; omega) (by unfold maxLen; simp; omega) (by simp; omega) ?_); intro v1 w1 ho1 hg_ _ hu_; go_loud (have HS1 := Lib.hid ((HT1.out.alloc _).kept hg_ (by intro hh; have h_ := World.ownsRow.lt ho_ _ hh.symm; omega)); have hc1 : Up w w1 := Below.grown (Up.al _ hd1) hg_ (by simp; omega) (fun k e => by have h_ := World.ownsRow.lt ho_ _ e; omega); have d2 := (grown_cell hg_ (by simp; omega) (by intro hh; have h3_ : wr.heap.size + 1 = g3 := Option.some.inj hh; omega)).trans (al_cell dz1); have hz1b : w1a.heap.size + 1 ≤ w1.heap.size := (by have h_ := hg_.size; simpa using h_); have HO1 := Lib.hid ho1); clear ho1 ho_ hg_ hu_ HT1 HP1) | (at_mapUpdate; (have h_ := HS0.out); go_loud (refine wpList_update_set _ rfl _ _ _ 239 rfl 9 4 Tryz.underlying9 Tryz.underlying239 Tryz.underlying4 (w.heap.size + 1) (2 * i) (nmI legs i) rfl HS0.out (by unfold maxLen; omega) _ rfl rfl hs1 ?_); intro w1a hs_ hg_; go_loud (have HT1 := Lib.hid hs_; clear hs_; have HP1 := Lib.hid (HO0.out.grown hg_ (.inr (by intro hh; have h_ := World.ownsRow.lt HO0.out _ hh; omega))); have hd1 : Up w w1a := Below.grown hc0 hg_ hc0.size (fun k e => by cases e; omega); have hz1 := hg_.size; have dz1 := (grown_cell hg_ (by omega) (by intro hh; injection hh with hh; omega)).trans d1; have hp1 := Nat.le_trans hc0.size hg_.size); clear hg_) | (at_lookup; have h_ := HS0.out; (refine wpList_lookup_set _ rfl _ _ 239 rfl 9 4 Tryz.underlying9 Tryz.underlying239 Tryz.underlying4 zero_bool (w.heap.size + 1) (2 * i) (nmI legs i) rfl HS0.out _ rfl hs1 _ h1 ?_)))
          have hfin : nmI legs (i + 1) = (nmI legs i ++ [x.from_] ++ [x.to_]) := by rw [hx1]; simp [dd, h1, h2]
          have hoF := HO2.out
          obtain ⟨g4, c4, hv4, _⟩ := World.ownsRow.form hoF (by simp)
          exact ⟨⟨i + 1, g4, c4, by omega, by go_num, by rw [hfin]; exact hv4, by rw [hfin, ← hv4]; exact hoF, by rw [hfin]; exact HS2.out.mono (by omega), hc2⟩, by simp [intOf]; omega⟩
        | true =>
          refine wp_loop_rounds 3 ?_
          rw [rounds_succ]
          go_wp2_with (first | (at_lookup; have h_ := HS1.out; (refine wpList_lookup_set _ rfl _ _ 239 rfl 9 4 Tryz.underlying9 Tryz.underlying239 Tryz.underlying4 zero_bool (w.heap.size + 1) (2 * i + 1) (nmI legs i ++ [x.from_]) rfl HS1.out _ rfl hs2 _ h2 ?_)) | (at_builtin; (have ho_ := HP1.out); go_loud (refine wpList_append_rd el_str rfl (.tmp 34) (.tmp 36) rfl (base := w.heap.size + 2) (ys := (nmI legs i)) (xs := [x.from_]) (by rfl) (ho_.up (by (repeat (first | exact Up.rfl' _ | (refine Up.al _ ?_) | (refine Up.dr _ ?_) | (refine Up.dr1 ?_) | (refine Up.sc ?_ (by first | exact Nat.le_refl _ | (simp; done) | omega) _) | (refine Up.step (by assumption) ?_))))) 1 (by rfl) rfl (Rd.oneAt _ _ (x.from_) _ (by simp)) (by simp; omega) (by unfold maxLen; simp; omega) (by simp; omega) ?_); intro v1 w1 ho1 hg_ _ hu_; go_loud (have HS1 := Lib.hid ((HT1.out.alloc _).kept hg_ (by intro hh; have h_ := World.ownsRow.lt ho_ _ hh.symm; omega)); have hc1 : Up w w1 := Below.grown (Up.al _ hd1) hg_ (by simp; omega) (fun k e => by have h_ := World.ownsRow.lt ho_ _ e; omega); have d2 := (grown_cell hg_ (by simp; omega) (by intro hh; have h3_ : wr.heap.size + 1 = g3 := Option.some.inj hh; omega)).trans (al_cell dz1); have hz1b : w1a.heap.size + 1 ≤ w1.heap.size := (by have h_ := hg_.size; simpa using h_); have HO1 := Lib.hid ho1); clear ho1 ho_ hg_ hu_ HT1 HP1) | (at_mapUpdate; (have h_ := HS0.out); go_loud (refine wpList_update_set _ rfl _ _ _ 239 rfl 9 4 Tryz.underlying9 Tryz.underlying239 Tryz.underlying4 (w.heap.size + 1) (2 * i) (nmI legs i) rfl HS0.out (by unfold maxLen; omega) _ rfl rfl hs1 ?_); intro w1a hs_ hg_; go_loud (have HT1 := Lib.hid hs_; clear hs_; have HP1 := Lib.hid (HO0.out.grown hg_ (.inr (by intro hh; have h_ := World.ownsRow.lt HO0.out _ hh; omega))); have hd1 : Up w w1a := Below.grown hc0 hg_ hc0.size (fun k e => by cases e; omega); have hz1 := hg_.size; have dz1 := (grown_cell hg_ (by omega) (by intro hh; injection hh with hh; omega)).trans d1; have hp1 := Nat.le_trans hc0.size hg_.size); clear hg_) | (at_lookup; have h_ := HS0.out; (refine wpList_lookup_set _ rfl _ _ 239 rfl 9 4 Tryz.underlying9 Tryz.underlying239 Tryz.underlying4 zero_bool (w.heap.size + 1) (2 * i) (nmI legs i) rfl HS0.out _ rfl hs1 _ h1 ?_)))
          rw [rounds_succ]
          go_wp2_with (first | (at_lookup; have h_ := HS1.out; (refine wpList_lookup_set _ rfl _ _ 239 rfl 9 4 Tryz.underlying9 Tryz.underlying239 Tryz.underlying4 zero_bool (w.heap.size + 1) (2 * i + 1) (nmI legs i ++ [x.from_]) rfl HS1.out _ rfl hs2 _ h2 ?_)) | (at_builtin; (have ho_ := HP1.out); go_loud (refine wpList_append_rd el_str rfl (.tmp 34) (.tmp 36) rfl (base := w.heap.size + 2) (ys := (nmI legs i)) (xs := [x.from_]) (by rfl) (ho_.up (by (repeat (first | exact Up.rfl' _ | (refine Up.al _ ?_) | (refine Up.dr _ ?_) | (refine Up.dr1 ?_) | (refine Up.sc ?_ (by first | exact Nat.le_refl _ | (simp; done) | omega) _) | (refine Up.step (by assumption) ?_))))) 1 (by rfl) rfl (Rd.oneAt _ _ (x.from_) _ (by simp)) (by simp; omega) (by unfold maxLen; simp; omega) (by simp; omega) ?_); intro v1 w1 ho1 hg_ _ hu_; go_loud (have HS1 := Lib.hid ((HT1.out.alloc _).kept hg_ (by intro hh; have h_ := World.ownsRow.lt ho_ _ hh.symm; omega)); have hc1 : Up w w1 := Below.grown (Up.al _ hd1) hg_ (by simp; omega) (fun k e => by have h_ := World.ownsRow.lt ho_ _ e; omega); have d2 := (grown_cell hg_ (by simp; omega) (by intro hh; have h3_ : wr.heap.size + 1 = g3 := Option.some.inj hh; omega)).trans (al_cell dz1); have hz1b : w1a.heap.size + 1 ≤ w1.heap.size := (by have h_ := hg_.size; simpa using h_); have HO1 := Lib.hid ho1); clear ho1 ho_ hg_ hu_ HT1 HP1) | (at_mapUpdate; (have h_ := HS0.out); go_loud (refine wpList_update_set _ rfl _ _ _ 239 rfl 9 4 Tryz.underlying9 Tryz.underlying239 Tryz.underlying4 (w.heap.size + 1) (2 * i) (nmI legs i) rfl HS0.out (by unfold maxLen; omega) _ rfl rfl hs1 ?_); intro w1a hs_ hg_; go_loud (have HT1 := Lib.hid hs_; clear hs_; have HP1 := Lib.hid (HO0.out.grown hg_ (.inr (by intro hh; have h_ := World.ownsRow.lt HO0.out _ hh; omega))); have hd1 : Up w w1a := Below.grown hc0 hg_ hc0.size (fun k e => by cases e; omega); have hz1 := hg_.size; have dz1 := (grown_cell hg_ (by omega) (by intro hh; injection hh with hh; omega)).trans d1; have hp1 := Nat.le_trans hc0.size hg_.size); clear hg_) | (at_lookup; have h_ := HS0.out; (refine wpList_lookup_set _ rfl _ _ 239 rfl 9 4 Tryz.underlying9 Tryz.underlying239 Tryz.underlying4 zero_bool (w.heap.size + 1) (2 * i) (nmI legs i) rfl HS0.out _ rfl hs1 _ h1 ?_)))
          rw [rounds_succ]
          go_wp2_with (first | (at_lookup; have h_ := HS1.out; (refine wpList_lookup_set _ rfl _ _ 239 rfl 9 4 Tryz.underlying9 Tryz.underlying239 Tryz.underlying4 zero_bool (w.heap.size + 1) (2 * i + 1) (nmI legs i ++ [x.from_]) rfl HS1.out _ rfl hs2 _ h2 ?_)) | (at_builtin; (have ho_ := HP1.out); go_loud (refine wpList_append_rd el_str rfl (.tmp 34) (.tmp 36) rfl (base := w.heap.size + 2) (ys := (nmI legs i)) (xs := [x.from_]) (by rfl) (ho_.up (by (repeat (first | exact Up.rfl' _ | (refine Up.al _ ?_) | (refine Up.dr _ ?_) | (refine Up.dr1 ?_) | (refine Up.sc ?_ (by first | exact Nat.le_refl _ | (simp; done) | omega) _) | (refine Up.step (by assumption) ?_))))) 1 (by rfl) rfl (Rd.oneAt _ _ (x.from_) _ (by simp)) (by simp; omega) (by unfold maxLen; simp; omega) (by simp; omega) ?_); intro v1 w1 ho1 hg_ _ hu_; go_loud (have HS1 := Lib.hid ((HT1.out.alloc _).kept hg_ (by intro hh; have h_ := World.ownsRow.lt ho_ _ hh.symm; omega)); have hc1 : Up w w1 := Below.grown (Up.al _ hd1) hg_ (by simp; omega) (fun k e => by have h_ := World.ownsRow.lt ho_ _ e; omega); have d2 := (grown_cell hg_ (by simp; omega) (by intro hh; have h3_ : wr.heap.size + 1 = g3 := Option.some.inj hh; omega)).trans (al_cell dz1); have hz1b : w1a.heap.size + 1 ≤ w1.heap.size := (by have h_ := hg_.size; simpa using h_); have HO1 := Lib.hid ho1); clear ho1 ho_ hg_ hu_ HT1 HP1) | (at_mapUpdate; (have h_ := HS0.out); go_loud (refine wpList_update_set _ rfl _ _ _ 239 rfl 9 4 Tryz.underlying9 Tryz.underlying239 Tryz.underlying4 (w.heap.size + 1) (2 * i) (nmI legs i) rfl HS0.out (by unfold maxLen; omega) _ rfl rfl hs1 ?_); intro w1a hs_ hg_; go_loud (have HT1 := Lib.hid hs_; clear hs_; have HP1 := Lib.hid (HO0.out.grown hg_ (.inr (by intro hh; have h_ := World.ownsRow.lt HO0.out _ hh; omega))); have hd1 : Up w w1a := Below.grown hc0 hg_ hc0.size (fun k e => by cases e; omega); have hz1 := hg_.size; have dz1 := (grown_cell hg_ (by omega) (by intro hh; injection hh with hh; omega)).trans d1; have hp1 := Nat.le_trans hc0.size hg_.size); clear hg_) | (at_lookup; have h_ := HS0.out; (refine wpList_lookup_set _ rfl _ _ 239 rfl 9 4 Tryz.underlying9 Tryz.underlying239 Tryz.underlying4 zero_bool (w.heap.size + 1) (2 * i) (nmI legs i) rfl HS0.out _ rfl hs1 _ h1 ?_)))
          have hfin : nmI legs (i + 1) = (nmI legs i ++ [x.from_]) := by rw [hx1]; simp [dd, h1, h2]
          have hoF := HO1.out
          obtain ⟨g4, c4, hv4, _⟩ := World.ownsRow.form hoF (by simp)
          exact ⟨⟨i + 1, g4, c4, by omega, by go_num, by rw [hfin]; exact hv4, by rw [hfin, ← hv4]; exact hoF, by rw [hfin]; exact HS1.out.mono (by omega), hc1⟩, by simp [intOf]; omega⟩
      | true =>
        cases h2 : inL (nmI legs i) x.to_ with
        | false =>
          refine wp_loop_rounds 3 ?_
          rw [rounds_succ]
          go_wp2_with (first | (at_lookup; have h_ := HS0.out; (refine wpList_lookup_set _ rfl _ _ 239 rfl 9 4 Tryz.underlying9 Tryz.underlying239 Tryz.underlying4 zero_bool (w.heap.size + 1) (2 * i) (nmI legs i) rfl HS0.out _ rfl hs1 _ h1 ?_)) | (at_lookup; have h_ := HS0.out; (refine wpList_lookup_set _ rfl _ _ 239 rfl 9 4 Tryz.underlying9 Tryz.underlying239 Tryz.underlying4 zero_bool (w.heap.size + 1) (2 * i) (nmI legs i) rfl HS0.out _ rfl hs2 _ h2 ?_)) | (at_mapUpdate; (have h_ := HS0.out); go_loud (refine wpList_update_set _ rfl _ _ _ 239 rfl 9 4 Tryz.underlying9 Tryz.underlying239 Tryz.underlying4 (w.heap.size + 1) (2 * i) (nmI legs i) rfl HS0.out (by unfold maxLen; omega) _ rfl rfl hs2 ?_); intro w2a hs_ hg_; go_loud (have HT2 := Lib.hid hs_; clear hs_; have HP2 := Lib.hid (HO0.out.grown hg_ (.inr (by intro hh; have h_ := World.ownsRow.lt HO0.out _ hh; omega))); have hd2 : Up w w2a := Below.grown hc0 hg_ hc0.size (fun k e => by cases e; omega); have hz2 := hg_.size; have hp2 := Nat.le_trans hc0.size hg_.size); clear hg_) | (at_builtin; (have ho_ := HP2.out); go_loud (refine wpList_append_rd el_str rfl (.tmp 34) (.tmp 36) rfl (base := w.heap.size + 2) (ys := (nmI legs i)) (xs := [x.to_]) (by rfl) (ho_.up (by (repeat (first | exact Up.rfl' _ | (refine Up.al _ ?_) | (refine Up.dr _ ?_) | (refine Up.dr1 ?_) | (refine Up.sc ?_ (by first | exact Nat.le_refl _ | (simp; done) | omega) _) | (refine Up.step (by assumption) ?_))))) 1 (by rfl) rfl (Rd.oneAt _ _ (x.to_) _ (by simp)) (by simp; omega) (by unfold maxLen; simp; omega) (by simp; omega) ?_); intro v2 w2 ho2 hg_ _ hu_; go_loud (have HS2 := Lib.hid ((HT2.out.alloc _).kept hg_ (by intro hh; have h_ := World.ownsRow.lt ho_ _ hh.symm; omega)); have hc2 : Up w w2 := Below.grown (Up.al _ hd2) hg_ (by simp; omega) (fun k e => by have h_ := World.ownsRow.lt ho_ _ e; omega); have hz2b : w2a.heap.size + 1 ≤ w2.heap.size := (by have h_ := hg_.size; simpa using h_); have HO2 := Lib.hid ho2); clear ho2 ho_ hg_ hu_ HT2 HP2))
          rw [rounds_succ]
          go_wp2_with (first | (at_lookup; have h_ := HS0.out; (refine wpList_lookup_set _ rfl _ _ 239 rfl 9 4 Tryz.underlying9 Tryz.underlying239 Tryz.underlying4 zero_bool (w.heap.size + 1) (2 * i) (nmI legs i) rfl HS0.out _ rfl hs1 _ h1 ?_)) | (at_lookup; have h_ := HS0.out; (refine wpList_lookup_set _ rfl _ _ 239 rfl 9 4 Tryz.underlying9 Tryz.underlying239 Tryz.underlying4 zero_bool (w.heap.size + 1) (2 * i) (nmI legs i) rfl HS0.out _ rfl hs2 _ h2 ?_)) | (at_mapUpdate; (have h_ := HS0.out); go_loud (refine wpList_update_set _ rfl _ _ _ 239 rfl 9 4 Tryz.underlying9 Tryz.underlying239 Tryz.underlying4 (w.heap.size + 1) (2 * i) (nmI legs i) rfl HS0.out (by unfold maxLen; omega) _ rfl rfl hs2 ?_); intro w2a hs_ hg_; go_loud (have HT2 := Lib.hid hs_; clear hs_; have HP2 := Lib.hid (HO0.out.grown hg_ (.inr (by intro hh; have h_ := World.ownsRow.lt HO0.out _ hh; omega))); have hd2 : Up w w2a := Below.grown hc0 hg_ hc0.size (fun k e => by cases e; omega); have hz2 := hg_.size; have hp2 := Nat.le_trans hc0.size hg_.size); clear hg_) | (at_builtin; (have ho_ := HP2.out); go_loud (refine wpList_append_rd el_str rfl (.tmp 34) (.tmp 36) rfl (base := w.heap.size + 2) (ys := (nmI legs i)) (xs := [x.to_]) (by rfl) (ho_.up (by (repeat (first | exact Up.rfl' _ | (refine Up.al _ ?_) | (refine Up.dr _ ?_) | (refine Up.dr1 ?_) | (refine Up.sc ?_ (by first | exact Nat.le_refl _ | (simp; done) | omega) _) | (refine Up.step (by assumption) ?_))))) 1 (by rfl) rfl (Rd.oneAt _ _ (x.to_) _ (by simp)) (by simp; omega) (by unfold maxLen; simp; omega) (by simp; omega) ?_); intro v2 w2 ho2 hg_ _ hu_; go_loud (have HS2 := Lib.hid ((HT2.out.alloc _).kept hg_ (by intro hh; have h_ := World.ownsRow.lt ho_ _ hh.symm; omega)); have hc2 : Up w w2 := Below.grown (Up.al _ hd2) hg_ (by simp; omega) (fun k e => by have h_ := World.ownsRow.lt ho_ _ e; omega); have hz2b : w2a.heap.size + 1 ≤ w2.heap.size := (by have h_ := hg_.size; simpa using h_); have HO2 := Lib.hid ho2); clear ho2 ho_ hg_ hu_ HT2 HP2))
          rw [rounds_succ]
          go_wp2_with (first | (at_lookup; have h_ := HS0.out; (refine wpList_lookup_set _ rfl _ _ 239 rfl 9 4 Tryz.underlying9 Tryz.underlying239 Tryz.underlying4 zero_bool (w.heap.size + 1) (2 * i) (nmI legs i) rfl HS0.out _ rfl hs1 _ h1 ?_)) | (at_lookup; have h_ := HS0.out; (refine wpList_lookup_set _ rfl _ _ 239 rfl 9 4 Tryz.underlying9 Tryz.underlying239 Tryz.underlying4 zero_bool (w.heap.size + 1) (2 * i) (nmI legs i) rfl HS0.out _ rfl hs2 _ h2 ?_)) | (at_mapUpdate; (have h_ := HS0.out); go_loud (refine wpList_update_set _ rfl _ _ _ 239 rfl 9 4 Tryz.underlying9 Tryz.underlying239 Tryz.underlying4 (w.heap.size + 1) (2 * i) (nmI legs i) rfl HS0.out (by unfold maxLen; omega) _ rfl rfl hs2 ?_); intro w2a hs_ hg_; go_loud (have HT2 := Lib.hid hs_; clear hs_; have HP2 := Lib.hid (HO0.out.grown hg_ (.inr (by intro hh; have h_ := World.ownsRow.lt HO0.out _ hh; omega))); have hd2 : Up w w2a := Below.grown hc0 hg_ hc0.size (fun k e => by cases e; omega); have hz2 := hg_.size; have hp2 := Nat.le_trans hc0.size hg_.size); clear hg_) | (at_builtin; (have ho_ := HP2.out); go_loud (refine wpList_append_rd el_str rfl (.tmp 34) (.tmp 36) rfl (base := w.heap.size + 2) (ys := (nmI legs i)) (xs := [x.to_]) (by rfl) (ho_.up (by (repeat (first | exact Up.rfl' _ | (refine Up.al _ ?_) | (refine Up.dr _ ?_) | (refine Up.dr1 ?_) | (refine Up.sc ?_ (by first | exact Nat.le_refl _ | (simp; done) | omega) _) | (refine Up.step (by assumption) ?_))))) 1 (by rfl) rfl (Rd.oneAt _ _ (x.to_) _ (by simp)) (by simp; omega) (by unfold maxLen; simp; omega) (by simp; omega) ?_); intro v2 w2 ho2 hg_ _ hu_; go_loud (have HS2 := Lib.hid ((HT2.out.alloc _).kept hg_ (by intro hh; have h_ := World.ownsRow.lt ho_ _ hh.symm; omega)); have hc2 : Up w w2 := Below.grown (Up.al _ hd2) hg_ (by simp; omega) (fun k e => by have h_ := World.ownsRow.lt ho_ _ e; omega); have hz2b : w2a.heap.size + 1 ≤ w2.heap.size := (by have h_ := hg_.size; simpa using h_); have HO2 := Lib.hid ho2); clear ho2 ho_ hg_ hu_ HT2 HP2))
          have hfin : nmI legs (i + 1) = (nmI legs i ++ [x.to_]) := by rw [hx1]; simp [dd, h1, h2]
          have hoF := HO2.out
          obtain ⟨g4, c4, hv4, _⟩ := World.ownsRow.form hoF (by simp)
          exact ⟨⟨i + 1, g4, c4, by omega, by go_num, by rw [hfin]; exact hv4, by rw [hfin, ← hv4]; exact hoF, by rw [hfin]; exact HS2.out.mono (by omega), hc2⟩, by simp [intOf]; omega⟩
        | true =>
          refine wp_loop_rounds 3 ?_
          rw [rounds_succ]
          go_wp2_with (first | (at_lookup; have h_ := HS0.out; (refine wpList_lookup_set _ rfl _ _ 239 rfl 9 4 Tryz.underlying9 Tryz.underlying239 Tryz.underlying4 zero_bool (w.heap.size + 1) (2 * i) (nmI legs i) rfl HS0.out _ rfl hs1 _ h1 ?_)) | (at_lookup; have h_ := HS0.out; (refine wpList_lookup_set _ rfl _ _ 239 rfl 9 4 Tryz.underlying9 Tryz.underlying239 Tryz.underlying4 zero_bool (w.heap.size + 1) (2 * i) (nmI legs i) rfl HS0.out _ rfl hs2 _ h2 ?_)))
          rw [rounds_succ]
          go_wp2_with (first | (at_lookup; have h_ := HS0.out; (refine wpList_lookup_set _ rfl _ _ 239 rfl 9 4 Tryz.underlying9 Tryz.underlying239 Tryz.underlying4 zero_bool (w.heap.size + 1) (2 * i) (nmI legs i) rfl HS0.out _ rfl hs1 _ h1 ?_)) | (at_lookup; have h_ := HS0.out; (refine wpList_lookup_set _ rfl _ _ 239 rfl 9 4 Tryz.underlying9 Tryz.underlying239 Tryz.underlying4 zero_bool (w.heap.size + 1) (2 * i) (nmI legs i) rfl HS0.out _ rfl hs2 _ h2 ?_)))
          rw [rounds_succ]
          go_wp2_with (first | (at_lookup; have h_ := HS0.out; (refine wpList_lookup_set _ rfl _ _ 239 rfl 9 4 Tryz.underlying9 Tryz.underlying239 Tryz.underlying4 zero_bool (w.heap.size + 1) (2 * i) (nmI legs i) rfl HS0.out _ rfl hs1 _ h1 ?_)) | (at_lookup; have h_ := HS0.out; (refine wpList_lookup_set _ rfl _ _ 239 rfl 9 4 Tryz.underlying9 Tryz.underlying239 Tryz.underlying4 zero_bool (w.heap.size + 1) (2 * i) (nmI legs i) rfl HS0.out _ rfl hs2 _ h2 ?_)))
          have hfin : nmI legs (i + 1) = (nmI legs i) := by rw [hx1]; simp [dd, h1, h2]
          exact ⟨⟨i + 1, g3, c3', by omega, by go_num, by rw [hfin], by rw [hfin]; exact HO0.out, by rw [hfin]; exact HS0.out.mono (by omega), hc0⟩, by simp [intOf]; omega⟩
    · obtain rfl : i = legs.length := by omega
      have hlen := nmI_len legs legs.length
      go_wp2_with fail
      refine (sortStr_any g3 c3' _ _ (nmI legs legs.length) _ ho rfl (by omega)).mono ?_
      rintro e w1 ⟨rfl, ho1, hg1⟩
      have hu1 : Up w w1 := Below.grown hb hg1 hb.size (fun k e => by cases e; have h_ := World.ownsRow.lt ho g3 rfl; omega)
      go_wp2_with fail
      go_ret
      exact ⟨_, rfl, by simpa [srtS_len] using ho1.more (by omega), hu1⟩
end Go.Proofs.YtjkpcfbmmkmoaaaGreat

/- The mirror of impl.PlacesOf (by hand), and that the code does just that. -/
namespace Go.Proofs.YtjkpcfbmmkmoaaaGreat
set_option maxRecDepth 10000
open Go.RowKit
set_option linter.unusedVariables false
set_option linter.unusedSimpArgs false
theorem nmI_names (n : YNetwork) : nmI n.legs n.legs.length = (namesOf n).foldl dd [] := by
  have h : ∀ (l : List YLeg) (acc : List ByteArray), l.foldl (fun out l => dd (dd out l.from_) l.to_) acc = (l.flatMap fun l => [l.from_, l.to_]).foldl dd acc := by
    intro l
    induction l with
    | nil => intro acc; rfl
    | cons x l ih => intro acc; simp only [List.foldl_cons, List.flatMap_cons, List.foldl_append, List.foldl_nil, ih]
  unfold nmI namesOf
  rw [List.take_length]
  exact h _ _
def m_impl_PlacesOf (n : YNetwork) : Option (List ByteArray) :=
  if n.legs.length ≤ 1048576 ∧ (n.legs.all fun l => decide (l.from_.size ≤ maxLen ∧ l.to_.size ≤ maxLen)) = true then some (srtS ((namesOf n).foldl dd [])) else none
theorem ok_impl_PlacesOf (n : YNetwork) {r : (List ByteArray)} (H : m_impl_PlacesOf n = some r) : CallM Tryz.prog 135 [.ag (cNetwork n)] [] (.ms 0) [some ⟨9, 1, r.map cStr⟩] := by
  unfold m_impl_PlacesOf at H
  split at H
  case isFalse => cases H
  rename_i hok
  obtain ⟨hn, hs⟩ := hok
  obtain rfl := Option.some.inj H
  have hs' : ∀ l ∈ n.legs, l.from_.size ≤ maxLen ∧ l.to_.size ≤ maxLen := fun l hl => of_decide_eq_true (List.all_eq_true.1 hs l hl)
  intro S β w vs hk hl ha
  obtain ⟨x, hx0, hr⟩ := ha 0 _ rfl
  have hv : vs = #[x] := by
    have h1 : vs.size = 1 := hl
    apply Array.ext (by simp [h1])
    intro i h2 h3
    have : i = 0 := by omega
    subst this
    have := (Array.getElem?_eq_some_iff.1 hx0).2
    simpa using this
  subst hv
  obtain ⟨us, rfl, hul, hu1, hur⟩ := hr.ag_inv
  have hul' : us.size = 3 := hul
  have h0 : us[0]? = some us[0] := Array.getElem?_eq_getElem (by omega)
  have hus : us = #[us[0], us[1], us[2]] := by
    apply Array.ext (by simp [hul'])
    intro i h2 h3
    match i, h2 with
    | 0, _ => rfl
    | 1, _ => rfl
    | 2, _ => rfl
    | i + 3, h2 => omega
  have hr0 := hur 0 (.sl (n.legs.map cLeg)) _ rfl h0
  have hsl : ∃ A c, us[0] = .slice A n.legs.length c ∧ n.legs.length ≤ c ∧ Rd w w.heap.size A n.legs := by
    cases hr0 with
    | c h =>
      generalize hq : PV.sl (n.legs.map cLeg) = q at h
      generalize us[0] = y at h
      cases h with
      | v x h => cases hq
      | ud => cases hq
      | un => cases hq
      | rp => cases hq
      | fn => cases hq
      | nil A c =>
        have : n.legs = [] := by simpa using hq
        exact ⟨A, c, by rw [this]; rfl, by rw [this]; simp, by rw [this]; exact Rd.nil_⟩
      | sl es b off k c u hS hkp hnc hm hes hcc h1 hrr =>
        obtain rfl : n.legs.map cLeg = es := by simpa using hq
        refine ⟨_, c, by simp, by simpa using hnc, fun hne => ⟨b, off, rfl, hk.sz b hS, fun j u' hu' => ?_⟩⟩
        have hpos : 0 < n.legs.length := List.length_pos_iff.2 hne
        have hk6 : k = 6 := (hes 0 (cLeg n.legs[0]) (by simp [hpos])).symm
        subst hk6
        have hj := (List.getElem?_eq_some_iff.1 hu').1
        rw [flat_len] at hj
        have hj6 : j < n.legs.length * 6 := hj
        have hi : j / 6 < n.legs.length := by omega
        have hy : n.legs[j / 6]? = some n.legs[j / 6] := List.getElem?_eq_getElem hi
        have hjj : j = (j / 6) * 6 + j % 6 := by omega
        have hm6 : j % 6 < 6 := Nat.mod_lt _ (by decide)
        have hp : ∃ p u'', (cLeg n.legs[j / 6])[j % 6]? = some p ∧ (Enc.cells n.legs[j / 6])[j % 6]? = some u'' ∧ ∀ z, RepC w S p z → z = u'' := by
          generalize n.legs[j / 6] = y
          generalize j % 6 = m at hm6
          match m, hm6 with
          | 0, _ => exact ⟨_, _, rfl, rfl, fun z hz => by cases hz; rfl⟩
          | 1, _ => exact ⟨_, _, rfl, rfl, fun z hz => by cases hz; rfl⟩
          | 2, _ => exact ⟨_, _, rfl, rfl, fun z hz => by cases hz; rfl⟩
          | 3, _ => exact ⟨_, _, rfl, rfl, fun z hz => by cases hz; rfl⟩
          | 4, _ => exact ⟨_, _, rfl, rfl, fun z hz => by cases hz; rfl⟩
          | 5, _ => exact ⟨_, _, rfl, rfl, fun z hz => by cases hz; rfl⟩
        obtain ⟨p, u'', hp1, hp2, hp3⟩ := hp
        have hf := flat_at hy hp2
        rw [show Enc.k YLeg = 6 from rfl, ← hjj] at hf
        obtain rfl : u'' = u' := Option.some.inj (hf.symm.trans hu')
        have e1 : (n.legs.map cLeg)[j / 6]? = some (cLeg n.legs[j / 6]) := by simp [hi]
        have hc := hcc (j / 6) _ (j % 6) p e1 hp1
        have hz := hp3 _ (hrr (j / 6) _ (j % 6) p e1 hp1)
        rw [hz] at hc
        rw [show off + j = off + j / 6 * 6 + j % 6 by omega]
        exact hc
  obtain ⟨A, c, hA, hcap, hrd⟩ := hsl
  rw [hus, hA]
  refine (places_walk A n.legs _ c _ _ w hrd rfl hcap hn hs').mono ?_
  rintro e w' ⟨v, rfl, ho, hu⟩
  rw [nmI_names] at ho
  obtain ⟨E', h1, h2, h3, h4, h5⟩ := ms_of_own (c := cStr) hk ho hu (fun x => ⟨rfl, fun j p hj => by
    cases j with
    | zero => obtain rfl : vs x = p := by simpa using hj
              exact ⟨_, rfl, rfl, fun w E => .c (.v _ rfl)⟩
    | succ j => simp [cStr] at hj⟩)
  exact ⟨v, E', rfl, h1, h2, h3, h4, h5⟩
instance (n : YNetwork) : CT Tryz.prog (m_impl_PlacesOf n) := ⟨135, [.ag (cNetwork n)], [], fun r => .ms 0, fun r => [some ⟨9, 1, r.map cStr⟩], ok_impl_PlacesOf n⟩
end Go.Proofs.YtjkpcfbmmkmoaaaGreat

/- Contracts at a world as_ contracts in plain values: slices of flat elements come in, a value of one cell goes out. -/
namespace Go.Proofs.YtjkpcfbmmkmoaaaGreat
set_option maxRecDepth 10000
open Go.RowKit
set_option linter.unusedVariables false
set_option linter.unusedSimpArgs false
/-- A codec of plain values that agrees with a flat codec. -/
class FlatAs {α β : Type} [Enc β] (c : α → List PV) (g : α → β) : Prop where
  len : ∀ x, (c x).length = Enc.k β
  at_ : ∀ x (j : Nat) (p : PV), (c x)[j]? = some p → ∃ u, (Enc.cells (g x))[j]? = some u ∧ p = .v u
theorem rd_flat {α β : Type} [Enc β] {c : α → List PV} (g : α → β) [hf : FlatAs c g] {w : World} {S : Nat → Prop} {xs : List α} {x : Value} (hsz : ∀ b, S b → b < w.heap.size) (h : RepC w S (.sl (xs.map c)) x) :
    ∃ A n, x = .slice A xs.length n ∧ xs.length ≤ n ∧ (xs ≠ [] → n ≤ maxLen) ∧ Rd w w.heap.size A (xs.map g) := by
  generalize hq : PV.sl (xs.map c) = q at h
  cases h with
  | v x h => cases hq
  | ud => cases hq
  | un => cases hq
  | rp => cases hq
  | fn => cases hq
  | nil A n =>
    have : xs = [] := by simpa using hq
    exact ⟨A, n, by rw [this]; rfl, by rw [this]; simp, fun h => absurd this h, by rw [this]; exact Rd.nil_⟩
  | sl es b off k n u hS hkp hnc hm hes hcc h1 hrr =>
    obtain rfl : xs.map c = es := by simpa using hq
    refine ⟨_, n, by simp, by simpa using hnc, fun _ => hm, fun hne => ⟨b, off, rfl, hsz b hS, fun t u' hu' => ?_⟩⟩
    have hne' : xs ≠ [] := fun e => hne (by rw [e]; rfl)
    have hpos : 0 < xs.length := List.length_pos_iff.2 hne'
    have hk1 : k = Enc.k β := ((hes 0 (c xs[0]) (by simp [hpos])).symm).trans (hf.len _)
    subst hk1
    have hkp' : 0 < Enc.k β := hkp
    have ht := (List.getElem?_eq_some_iff.1 hu').1
    rw [flat_len, List.length_map] at ht
    have hi : t / Enc.k β < xs.length := by rw [Nat.div_lt_iff_lt_mul hkp']; exact ht
    have hj := Nat.mod_lt t hkp'
    have e0 : t / Enc.k β * Enc.k β + t % Enc.k β = t := by rw [Nat.mul_comm]; exact Nat.div_add_mod t _
    have e1 : (xs.map c)[t / Enc.k β]? = some (c xs[t / Enc.k β]) := by simp [hi]
    have e2 : (c xs[t / Enc.k β])[t % Enc.k β]? = some ((c xs[t / Enc.k β])[t % Enc.k β]'(by rw [hf.len]; exact hj)) := List.getElem?_eq_getElem _
    obtain ⟨v, hv, hp⟩ := hf.at_ _ _ _ e2
    have hfl := flat_at (xs := xs.map g) (i := t / Enc.k β) (x := g xs[t / Enc.k β]) (by simp [hi]) hv
    rw [e0, hu'] at hfl
    obtain rfl := Option.some.inj hfl
    have hc := hcc _ _ _ _ e1 e2
    have hz := hrr _ _ _ _ e1 e2
    rw [hp] at hz
    have hz' : u (t / Enc.k β) (t % Enc.k β) = u' := by
      generalize u (t / Enc.k β) (t % Enc.k β) = z at hz
      cases hz with
      | v _ _ => rfl
    rw [hz'] at hc
    rw [← e0, ← Nat.add_assoc]
    exact hc
/-- What a contract at a world asks of its caller, and gives. -/
theorem callM_v {P : Program} {f : FuncId} {args : List PV} {val : Value} (h1 : val.oneCell' = true)
    (h : ∀ (S : Nat → Prop) (β : Nat → Option Blk) (w : World) (vs : Array Value), (∀ b, S b → b < w.heap.size) → vs.size = args.length → (∀ (i : Nat) (p : PV), args[i]? = some p → ∃ x, vs[i]? = some x ∧ Rep w (E1 S β 0) p x) →
      Calls P f vs w fun e w' => e = .returned val ∧ Up w w') : CallM P f args [] (.v val) [] := by
  intro S β w vs hk hl ha
  refine (h S β w vs hk.sz hl ha).mono ?_
  rintro e w' ⟨rfl, hu⟩
  refine ⟨val, E1 S β 0, rfl, ⟨⟨hu.os, hu.tape, hu.output, hu.size, fun b hb _ => hu.block b hb⟩, fun b hb => Nat.lt_of_lt_of_le (hk.sz b hb) hu.size, fun l B hB hz => ?_, hk.inj, hk.used, hk.bu, fun l mb hm => (by simp at hm), hk.dom, hk.tab⟩, fun b h => h, fun b h => .inl h, fun l B _ h => h, .c (.v _ h1)⟩
  obtain ⟨a, b, c⟩ := hk.own l B hB hz
  exact ⟨a, Nat.lt_of_lt_of_le b hu.size, c⟩
theorem arr1 {vs : Array Value} {x0 : Value} (h : vs.size = 1) (h0 : vs[0]? = some x0) : vs = #[x0] := by
  apply Array.ext (by simp [h])
  intro i h2 h3
  obtain rfl : i = 0 := by omega
  simpa using (Array.getElem?_eq_some_iff.1 h0).2
theorem arr3 {vs : Array Value} {x0 x1 x2 : Value} (h : vs.size = 3) (h0 : vs[0]? = some x0) (h1 : vs[1]? = some x1) (h2 : vs[2]? = some x2) : vs = #[x0, x1, x2] := by
  apply Array.ext (by simp [h])
  intro i hi h3
  have a0 := (Array.getElem?_eq_some_iff.1 h0).2
  have a1 := (Array.getElem?_eq_some_iff.1 h1).2
  have a2 := (Array.getElem?_eq_some_iff.1 h2).2
  match i, hi with
  | 0, _ => simpa using a0
  | 1, _ => simpa using a1
  | 2, _ => simpa using a2
  | i + 3, hi => omega
theorem rep_v1 {w : World} {E : Env} {a x : Value} (h : Rep w E (.v a) x) : x = a := h.v_inv.1
theorem rep_sl {w : World} {E : Env} {es : List (List PV)} {x : Value} (h : Rep w E (.sl es) x) : RepC w E.S (.sl es) x := h.sl_inv
instance : FlatAs cInt (id : Int → Int) := ⟨fun x => rfl, fun x j p h => by
  cases j with
  | zero => obtain rfl : vi x = p := by simpa using h
            exact ⟨_, rfl, rfl⟩
  | succ j => simp [cInt] at h⟩
end Go.Proofs.YtjkpcfbmmkmoaaaGreat

namespace Go.Proofs.YtjkpcfbmmkmoaaaGreat
set_option maxRecDepth 10000
open Go.RowKit
theorem within_any (n l h : Int) (w : World) : Calls Tryz.prog 98 #[.int .i64 n, .int .i64 l, .int .i64 h] w fun e w' => e = .returned (.bool (inB n l h)) ∧ w = w' := by
  by_cases h1 : l ≤ n
  · go_enter Tryz.func98, Tryz.ntmps98
    go_wp2
    go_ret
    exact ⟨by simp [h1, inB], rfl⟩
  · go_enter Tryz.func98, Tryz.ntmps98
    go_wp2
    go_ret
    exact ⟨by simp [inB]; omega, rfl⟩
theorem l1In_any (n l h : Int) (w : World) : Calls Tryz.prog 90 #[.int .i64 n, .int .i64 l, .int .i64 h] w fun e w' => e = .returned (.bool (inB n l h)) ∧ w = w' := by
  by_cases h1 : l ≤ n
  · go_enter Tryz.func90, Tryz.ntmps90
    go_wp2
    go_ret
    exact ⟨by simp [h1, inB], rfl⟩
  · go_enter Tryz.func90, Tryz.ntmps90
    go_wp2
    go_ret
    exact ⟨by simp [inB]; omega, rfl⟩
end Go.Proofs.YtjkpcfbmmkmoaaaGreat

namespace Go.Proofs.YtjkpcfbmmkmoaaaGreat
set_option maxRecDepth 10000
open Go.RowKit
theorem Rd.int {w : World} {B : Nat} {A : Option Addr} {xs : List Int} {i : Nat} {x : Int} (h : Rd w B A xs) (hx : xs[i]? = some x) :
    ∃ b off, A = some ⟨b, off, none⟩ ∧ b < B ∧ w.cell? ⟨b, off + i, none⟩ = some (I x) := by
  obtain ⟨b, off, e, hb, hc⟩ := h.at_ hx
  have h0 := hc 0 _ rfl
  have : off + i * Enc.k Int + 0 = off + i := by show off + i * 1 + 0 = off + i; omega
  rw [this] at h0
  exact ⟨b, off, e, hb, h0⟩

theorem eqIntS_any (A A' : Option Addr) (c c' : Nat) (xs ys : List Int) (w : World) (hx : Rd w w.heap.size A xs) (hy : Rd w w.heap.size A' ys) (hn : xs.length ≤ 2000000) (_hn : ys.length ≤ 2000000) :
    Calls Tryz.prog 21 #[.slice A xs.length c, .slice A' ys.length c'] w fun e w' => e = .returned (.bool (decide (xs = ys))) ∧ Below w.heap.size w w' := by
  by_cases hl : xs.length = ys.length
  · have hL : ((xs.length : Int) != (ys.length : Int)) = false := by simp [hl]
    have HL := Lib.hid hl
    clear hl
    go_enter Tryz.func21, Tryz.ntmps21
    go_wp2
    clear hL
    go_loopw [5] (fun i wr => ∃ j : Nat, j ≤ xs.length ∧ i = .int .i64 j ∧ Hid (xs.take j = ys.take j) ∧ Below w.heap.size w wr) (fun i _ => xs.length - (intOf i).toNat)
    case atStart => exact ⟨0, by omega, rfl, rfl, Below.refl _ _⟩
    case round =>
      obtain ⟨i, hi, rfl, he, hb⟩ := hrel
      by_cases hlt : i < xs.length
      · obtain ⟨x, gx⟩ := get_of_lt hlt
        obtain ⟨y, gy⟩ := get_of_lt (xs := ys) (i := i) (by rw [← HL.out]; exact hlt)
        obtain ⟨b, off, rfl, hbb, c0⟩ := (hx.below hb).int gx
        obtain ⟨b', off', rfl, hbb', c0'⟩ := (hy.below hb).int gy
        have hlt' : i < ys.length := lt_of_get gy
        have Gx := Lib.hid gx
        have Gy := Lib.hid gy
        clear gx gy hx hy
        go_wp2
        go_quiet (fail)
        go_wp2
        · go_ret
          exact ⟨retF (ne_of_get Gx.out Gy.out (bne_iff_ne.1 ‹(x != y) = true›)), belowD hb _⟩
        · exact ⟨⟨i + 1, by omega, by go_num, take_snoc_eq he.out Gx.out Gy.out (bne_eq_false_iff_eq.1 ‹(x != y) = false›), belowD hb _⟩, by simp [intOf]; omega⟩
      · go_wp2
        go_ret
        exact ⟨retT (eq_of_take he.out (by omega) (by have := HL.out; omega)), hb⟩
  · have hL : ((xs.length : Int) != (ys.length : Int)) = true := by simp; omega
    have hE := Lib.hid (ne_of_len hl)
    clear hl
    go_enter Tryz.func21, Tryz.ntmps21
    go_wp2
    go_ret
    exact ⟨retF hE.out, Below.refl _ _⟩

theorem info_int : (Tryz.prog.info? 3).map (fun i => (i.zero, i.size, i.bytes)) = some (some (.int .i64 0), 1, 8) := by kernel_rfl
theorem flat_int {xs : List Int} {i : Nat} {x : Int} (hx : xs[i]? = some x) : (flat xs)[i]? = some (I x) := by
  have h := flat_at hx (j := 0) (u := I x) rfl
  have : i * Enc.k Int + 0 = i := by show i * 1 + 0 = i; omega
  rwa [this] at h
theorem toIntS_any (A : Option Addr) (c : Nat) (xs : List Int) (w : World) (hx : Rd w w.heap.size A xs) (hn : xs.length ≤ 2000000) :
    Calls Tryz.prog 16 #[.slice A xs.length c] w fun e w' => ∃ g, e = .returned (.slice (some ⟨g, 0, none⟩) xs.length xs.length) ∧ Own w' w.heap.size 3 (.slice (some ⟨g, 0, none⟩) xs.length xs.length) xs ∧ Below w.heap.size w w' := by
  obtain ⟨i0, hi0, hz0, hz1, hz2⟩ := info_parts info_int
  have hmk := run_mk (P := Tryz.prog) 23 3 i0 _ Tryz.underlying23 hi0 hz0 xs.length (by rw [hz2]; omega) (by omega)
  rw [hz1] at hmk
  have HX := Lib.hid hx
  clear hi0 hz0 hz1 hz2 hx
  go_enter Tryz.func16, Tryz.ntmps16
  go_wp2
  go_loopw [4] (fun i wr => ∃ j : Nat, j ≤ xs.length ∧ i = .int .i64 j ∧ Filling wr w.heap.size 3 1 w.heap.size xs.length j (flat xs) ∧ Below w.heap.size w wr) (fun i _ => xs.length - (intOf i).toNat)
  case atStart => exact ⟨0, by omega, rfl, (by have h_ := Filling.start w w.heap.size 3 1 xs.length #[.int .i64 0] (flat xs) (Nat.le_refl _) (by unfold maxLen; omega); rwa [Nat.mul_one] at h_), by (repeat (first | exact Up.rfl' _ | (refine Up.al _ ?_) | (refine Up.dr _ ?_) | (refine Up.dr1 ?_) | (refine Up.sc ?_ (by first | exact Nat.le_refl _ | (simp; done) | omega) _) | (refine Up.step (by assumption) ?_)))⟩
  case round =>
    obtain ⟨i, hi, rfl, hF, hb⟩ := hrel
    clear hmk
    by_cases hlt : i < xs.length
    · obtain ⟨x, gx⟩ := get_of_lt hlt
      obtain ⟨b, off, rfl, hbb, c0⟩ := (HX.out.below hb).int gx
      obtain ⟨u, d0⟩ := hF.cell (j := i) (by omega)
      have f0 := hF.frozen i
      have hF' := hF.set1 hlt (flat_int gx)
      have HF := Lib.hid hF'
      clear gx hF hF'
      go_wp2
      exact ⟨⟨i + 1, by omega, by go_num, HF.out, hb.setCell (by simp) _⟩, by simp [intOf]; omega⟩
    · go_wp2
      go_ret
      obtain rfl : i = xs.length := by omega
      exact ⟨_, rfl, hF.own rfl, hb⟩
end Go.Proofs.YtjkpcfbmmkmoaaaGreat

namespace Go.Proofs.YtjkpcfbmmkmoaaaGreat
set_option maxRecDepth 10000
open Go.RowKit
theorem arePercents_impl (A : Option Addr) (c : Nat) (xs : List Int) (w : World) (hx : Rd w w.heap.size A xs) (hn : xs.length ≤ 2000000) :
    Calls Tryz.prog 54 #[.slice A xs.length c] w fun e w' => e = .returned (.bool (pctsB xs)) ∧ Below w.heap.size w w' := by
  go_enter Tryz.func54, Tryz.ntmps54
  go_wp2
  go_loopw [7] (fun i wr => ∃ j : Nat, j ≤ xs.length ∧ i = .int .i64 j ∧ Hid (allTo j (pctAt xs) = true) ∧ Below w.heap.size w wr) (fun i _ => xs.length - (intOf i).toNat)
  case atStart => exact ⟨0, by omega, rfl, allTo_zero _, Below.refl _ _⟩
  case round =>
    obtain ⟨i, hi, rfl, he, hb⟩ := hrel
    by_cases hlt : i < xs.length
    · obtain ⟨x, gx⟩ := get_of_lt hlt
      cases hin : inB x 0 100 with
      | false =>
        obtain ⟨b, off, rfl, hbb, c0⟩ := (hx.below hb).int gx
        have HR := Lib.hid (pctsB_false hlt (pctAt_out gx hin))
        clear gx hx
        go_wp2_with (go_at_call 98; refine (within_any _ _ _ _).mono ?_; rintro e w' ⟨rfl, rfl⟩)
        go_ret
        exact ⟨retb HR.out.symm, hb⟩
      | true =>
        rcases Nat.eq_zero_or_pos i with h0' | h0
        · have h0 : i ≤ 0 := by omega
          clear h0'
          obtain ⟨b, off, rfl, hbb, c0⟩ := (hx.below hb).int gx
          have HR := Lib.hid (pctAt_zero h0 gx hin)
          clear gx hx
          go_wp2_with (go_at_call 98; refine (within_any _ _ _ _).mono ?_; rintro e w' ⟨rfl, rfl⟩)
          exact ⟨⟨i + 1, by omega, by go_num, allTo_succ he.out HR.out, hb⟩, by simp [intOf]; omega⟩
        · obtain ⟨m, rfl⟩ : ∃ m, i = m + 1 := ⟨i - 1, by omega⟩
          obtain ⟨y, gy⟩ := get_of_lt (xs := xs) (i := m) (by omega)
          obtain ⟨b, off, rfl, hbb, c0⟩ := (hx.below hb).int gx
          obtain ⟨b', off', hA, _, c1⟩ := (hx.below hb).int gy
          obtain ⟨rfl, rfl⟩ : b = b' ∧ off = off' := by simpa using hA
          clear hA
          by_cases hlt2 : x < y
          · have HR := Lib.hid (pctsB_false hlt (pctAt_down gy gx hlt2))
            clear gx hx gy
            go_wp2_with (go_at_call 98; refine (within_any _ _ _ _).mono ?_; rintro e w' ⟨rfl, rfl⟩)
            go_ret
            exact ⟨retb HR.out.symm, hb⟩
          · have HR := Lib.hid (pctAt_up gy gx hin hlt2)
            clear gx hx gy
            go_wp2_with (go_at_call 98; refine (within_any _ _ _ _).mono ?_; rintro e w' ⟨rfl, rfl⟩)
            exact ⟨⟨m + 2, by omega, by go_num, allTo_succ he.out HR.out, hb⟩, by simp [intOf]; omega⟩
    · obtain rfl : i = xs.length := by omega
      have HR := Lib.hid (pctsB_len he.out)
      clear hx
      go_wp2_with (go_at_call 98; refine (within_any _ _ _ _).mono ?_; rintro e w' ⟨rfl, rfl⟩)
      go_ret
      exact ⟨retb HR.out.symm, hb⟩
theorem arePercents_spec (A : Option Addr) (c : Nat) (xs : List Int) (w : World) (hx : Rd w w.heap.size A xs) (hn : xs.length ≤ 2000000) :
    Calls Tryz.prog 44 #[.slice A xs.length c] w fun e w' => e = .returned (.bool (pctsB xs)) ∧ Below w.heap.size w w' := by
  go_enter Tryz.func44, Tryz.ntmps44
  go_wp2
  go_loopw [3] (fun i wr => ∃ j : Nat, j ≤ xs.length ∧ i = .int .i64 j ∧ Hid (allTo j (pctAt xs) = true) ∧ Below w.heap.size w wr) (fun i _ => xs.length - (intOf i).toNat)
  case atStart => exact ⟨0, by omega, rfl, allTo_zero _, Below.refl _ _⟩
  case round =>
    obtain ⟨i, hi, rfl, he, hb⟩ := hrel
    by_cases hlt : i < xs.length
    · obtain ⟨x, gx⟩ := get_of_lt hlt
      cases hin : inB x 0 100 with
      | false =>
        obtain ⟨b, off, rfl, hbb, c0⟩ := (hx.below hb).int gx
        have HR := Lib.hid (pctsB_false hlt (pctAt_out gx hin))
        clear gx hx
        go_wp2
        go_quiet ((go_at_call 90; exact quietL (l1In_any _ _ _ _)))
        go_wp2
        go_ret
        exact ⟨retb HR.out.symm, belowD hb _⟩
      | true =>
        rcases Nat.eq_zero_or_pos i with h0' | h0
        · have h0 : i ≤ 0 := by omega
          clear h0'
          obtain ⟨b, off, rfl, hbb, c0⟩ := (hx.below hb).int gx
          have HR := Lib.hid (pctAt_zero h0 gx hin)
          clear gx hx
          have d0 : decide ((0 : Int) < (i : Int)) = false := by simp; omega
          have d1 : decide (0 < i) = false := by simp; omega
          go_wp2
          go_quiet ((go_at_call 90; exact quietL (l1In_any _ _ _ _)))
          go_wp2
          exact ⟨⟨i + 1, by omega, by go_num, allTo_succ he.out HR.out, belowD hb _⟩, by simp [intOf]; omega⟩
        · obtain ⟨m, rfl⟩ : ∃ m, i = m + 1 := ⟨i - 1, by omega⟩
          obtain ⟨y, gy⟩ := get_of_lt (xs := xs) (i := m) (by omega)
          obtain ⟨b, off, rfl, hbb, c0⟩ := (hx.below hb).int gx
          obtain ⟨b', off', hA, _, c1⟩ := (hx.below hb).int gy
          obtain ⟨rfl, rfl⟩ : b = b' ∧ off = off' := by simpa using hA
          clear hA
          by_cases hlt2 : x < y
          · have HR := Lib.hid (pctsB_false hlt (pctAt_down gy gx hlt2))
            clear gx hx gy
            go_wp2
            go_quiet ((go_at_call 90; exact quietL (l1In_any _ _ _ _)))
            go_wp2
            go_ret
            exact ⟨retb HR.out.symm, belowD hb _⟩
          · have HR := Lib.hid (pctAt_up gy gx hin hlt2)
            clear gx hx gy
            go_wp2
            go_quiet ((go_at_call 90; exact quietL (l1In_any _ _ _ _)))
            go_wp2
            exact ⟨⟨m + 2, by omega, by go_num, allTo_succ he.out HR.out, belowD hb _⟩, by simp [intOf]; omega⟩
    · obtain rfl : i = xs.length := by omega
      have HR := Lib.hid (pctsB_len he.out)
      clear hx
      go_wp2_with (go_at_call 90; refine (l1In_any _ _ _ _).mono ?_; rintro e w' ⟨rfl, rfl⟩)
      go_ret
      exact ⟨retb HR.out.symm, hb⟩
end Go.Proofs.YtjkpcfbmmkmoaaaGreat

namespace Go.Proofs.YtjkpcfbmmkmoaaaGreat
set_option maxRecDepth 10000
open Go.RowKit
theorem isLine_impl (o k a t : Int) (w : World) : Calls Tryz.prog 140 #[.agg #[.int .i64 o, .int .i64 k, .int .i64 a, .int .i64 t]] w fun e w' => e = .returned (.bool (lineB o k a t)) ∧ Below w.heap.size w w' := by
  go_enter Tryz.func140, Tryz.ntmps140
  go_wp2_with (go_at_call 98; refine (within_any _ _ _ _).mono ?_; rintro e w' ⟨rfl, rfl⟩)
  all_goals go_ret
  all_goals exact ⟨by simp [lineB, *], (Below.refl _ _).alloc (Nat.le_refl _) _⟩
theorem isLine_spec (o k a t : Int) (w : World) : Calls Tryz.prog 123 #[.agg #[.int .i64 o, .int .i64 k, .int .i64 a, .int .i64 t]] w fun e w' => e = .returned (.bool (lineB o k a t)) ∧ Below w.heap.size w w' := by
  go_enter Tryz.func123, Tryz.ntmps123
  go_wp2_with (go_at_call 90; refine (l1In_any _ _ _ _).mono ?_; rintro e w' ⟨rfl, rfl⟩)
  all_goals go_ret
  all_goals exact ⟨by simp [lineB, *], (Below.refl _ _).alloc (Nat.le_refl _) _⟩
theorem toLine_any (o k a t : Int) (w : World) : Calls Tryz.prog 129 #[.agg #[.int .i64 o, .int .i64 k, .int .i64 a, .int .i64 t]] w fun e w' => e = .returned (.agg #[.int .i64 o, .int .i64 k, .int .i64 a, .int .i64 t]) ∧ Below w.heap.size w w' := by
  go_enter Tryz.func129, Tryz.ntmps129
  go_wp2
  exact bodyPost_ret (v := .agg #[.int .i64 o, .int .i64 k, .int .i64 a, .int .i64 t]) (by simp [results, Tryz.results129, go_sem]) rfl ⟨rfl, by (repeat (first | exact Up.rfl' _ | (refine Up.al _ ?_) | (refine Up.dr _ ?_) | (refine Up.dr1 ?_) | (refine Up.sc ?_ (by first | exact Nat.le_refl _ | (simp; done) | omega) _) | (refine Up.step (by assumption) ?_)))⟩
end Go.Proofs.YtjkpcfbmmkmoaaaGreat

namespace Go.Proofs.YtjkpcfbmmkmoaaaGreat
set_option maxRecDepth 10000
open Go.RowKit
theorem sumOf_impl (A : Option Addr) (xs : List Ln) (c : Nat) (o k : Int) (w : World) (hr : Rd w w.heap.size A xs) (hn : xs.length ≤ 2000000)
  : Calls Tryz.prog 57 #[.slice A xs.length c, .int .i64 o, .int .i64 k] w fun e w' => e = .returned (.int .i64 (sumLn xs o k)) ∧ Up w w' := by
  go_enter Tryz.func57, Tryz.ntmps57
  go_wp2
  go_loopw [7, 12] (fun n7 i wr => ∃ j : Nat, j ≤ xs.length ∧ i = .int .i64 j ∧ n7 = .int .i64 (sumLn (xs.take j) o k) ∧ Up w wr) (fun _ i _ => xs.length - (intOf i).toNat)
  case atStart => exact ⟨0, by omega, rfl, rfl, Below.refl _ _⟩
  case round =>
    obtain ⟨i, hi, rfl, rfl, hb⟩ := hrel
    by_cases hlt : i < xs.length
    · obtain ⟨x, hx⟩ := get_of_lt hlt
      obtain ⟨b, off, rfl, hbb, c0, c1, c2, c3⟩ := (hr.below hb).ln hx
      have hbs := hb.size
      have S : Hid (sumLn (xs.take (i+1)) o k = sumStep o k (sumLn (xs.take i) o k) x) := foldl_snoc hx _ _
      clear hr hx
      go_wp2
      all_goals exact ⟨⟨i + 1, by omega, by go_num, by rw [S.out]; simp [sumStep, *], by (repeat (first | exact Up.rfl' _ | (refine Up.al _ ?_) | (refine Up.dr _ ?_) | (refine Up.dr1 ?_) | (refine Up.sc ?_ (by first | exact Nat.le_refl _ | (simp; done) | omega) _) | (refine Up.step (by assumption) ?_)))⟩, by simp [intOf]; omega⟩
    · go_wp2
      go_ret
      obtain rfl : i = xs.length := by omega
      exact ⟨by simp, hb⟩
theorem sumOf_spec (A : Option Addr) (xs : List Ln) (c : Nat) (o k : Int) (w : World) (hr : Rd w w.heap.size A xs) (hn : xs.length ≤ 2000000)
  : Calls Tryz.prog 124 #[.slice A xs.length c, .int .i64 o, .int .i64 k] w fun e w' => e = .returned (.int .i64 (sumLn xs o k)) ∧ Up w w' := by
  go_enter Tryz.func124, Tryz.ntmps124
  go_wp2
  go_loopw [7, 8] (fun n7 i wr => ∃ j : Nat, j ≤ xs.length ∧ i = .int .i64 j ∧ n7 = .int .i64 (sumLn (xs.take j) o k) ∧ Up w wr) (fun _ i _ => xs.length - (intOf i).toNat)
  case atStart => exact ⟨0, by omega, rfl, rfl, Below.refl _ _⟩
  case round =>
    obtain ⟨i, hi, rfl, rfl, hb⟩ := hrel
    by_cases hlt : i < xs.length
    · obtain ⟨x, hx⟩ := get_of_lt hlt
      obtain ⟨b, off, rfl, hbb, c0, c1, c2, c3⟩ := (hr.below hb).ln hx
      have hbs := hb.size
      have S : Hid (sumLn (xs.take (i+1)) o k = sumStep o k (sumLn (xs.take i) o k) x) := foldl_snoc hx _ _
      clear hr hx
      go_wp2
      all_goals exact ⟨⟨i + 1, by omega, by go_num, by rw [S.out]; simp [sumStep, *], by (repeat (first | exact Up.rfl' _ | (refine Up.al _ ?_) | (refine Up.dr _ ?_) | (refine Up.dr1 ?_) | (refine Up.sc ?_ (by first | exact Nat.le_refl _ | (simp; done) | omega) _) | (refine Up.step (by assumption) ?_)))⟩, by simp [intOf]; omega⟩
    · go_wp2
      go_ret
      obtain rfl : i = xs.length := by omega
      exact ⟨by simp, hb⟩
end Go.Proofs.YtjkpcfbmmkmoaaaGreat

/- A region that draws its order, whose operations read old memory or call functions that leave old memory as_ it was: ONE walk of the text's order serves (Derived/Deep/Quiet.lean's theorem, at the class of the worlds above w). -/
namespace Go.Proofs.YtjkpcfbmmkmoaaaGreat
set_option maxRecDepth 10000
open Go.RowKit
/-- The worlds that leave w's memory as_ it was. -/
def Ups (w : World) : Type := {w' : World // Up w w'}
instance (w : World) : Nonempty (Ups w) := ⟨⟨w, Up.rfl' w⟩⟩
def Ups.val {w : World} (x : Ups w) : World := x.1
theorem Ups.up {w : World} (x : Ups w) : Up w x.val := x.2
theorem Ups.cell {w : World} {b o : Nat} {v : Value} (h : w.cell? ⟨b, o, none⟩ = some v) : ∀ x : Ups w, x.val.cell? ⟨b, o, none⟩ = some v :=
  fun x => (x.2.cell (p := ⟨b, o, none⟩) (World.block_lt_of_cell? w ⟨b, o, none⟩ h)).trans h
theorem cellUp {w w' : World} {b o : Nat} {v : Value} (h : w.cell? ⟨b, o, none⟩ = some v) (hu : Up w w') : w'.cell? ⟨b, o, none⟩ = some v := Ups.cell h ⟨w', hu⟩
theorem Ups.rd {α : Type} [Enc α] {w : World} {A : Option Addr} {xs : List α} (h : Rd w w.heap.size A xs) (x : Ups w) : Rd x.val x.val.heap.size A xs := h.up x.2
theorem Ups.call {P : Program} {f : FuncId} {args : Array Value} {w : World} {x : Ups w} {v : Value} (h : Calls P f args x.val fun e w' => e = .returned v ∧ Up x.val w') :
    Calls P f args x.val fun e w'' => e = .returned v ∧ ∃ y : Ups w, w'' = y.val :=
  h.mono fun _ v2 ⟨he, hu⟩ => ⟨he, ⟨v2, Up.step hu x.2⟩, rfl⟩
theorem Ups.calls {P : Program} {f : FuncId} {args : Array Value} {w : World} {x : Ups w} {v : Value} (h : Calls P f args x.val fun e w' => e = .returned v ∧ x.val = w') :
    Calls P f args x.val fun e w'' => e = .returned v ∧ ∃ y : Ups w, w'' = y.val :=
  h.mono fun _ _ ⟨he, hu⟩ => ⟨he, x, hu.symm⟩
theorem wp_region_up {P : Program} {id : Nat} {Q : Exit → Act → World → Prop} {a : Act} {w : World} {l : List Oper} (hm : P.follows .mixedOrders = true) (hB : Region.lexB .any l.toArray = true)
    (h : wpQuiet P l.toArray (fun w' => ∃ x : Ups w, w' = x.val) (fun a' => ∀ w', Up w w' → Q .normal a' w') l a) : (Code.region id l.toArray true).wp P Q a w := by
  refine wp_region_quiet (C := fun w' => ∃ x : Ups w, w' = x.val) hm hB ⟨⟨_, Up.dr1 (Up.rfl' w)⟩, rfl⟩ ?_
  have e : (fun a' => ∀ w', (∃ x : Ups w, w' = x.val) → Q .normal a' w') = (fun a' => ∀ w', Up w w' → Q .normal a' w') := by
    funext a'
    refine propext ⟨fun h w' hu => h w' ⟨⟨w', hu⟩, rfl⟩, fun h w' hx => ?_⟩
    obtain ⟨x, rfl⟩ := hx
    exact h _ x.2
  rw [e]
  simpa using h
end Go.Proofs.YtjkpcfbmmkmoaaaGreat

namespace Go.Proofs.YtjkpcfbmmkmoaaaGreat
set_option maxRecDepth 10000
open Go.RowKit
theorem sumOf_impl_n (A : Option Addr) (xs : List Ln) (n c : Nat) (o k : Int) (w : World) (hr : Rd w w.heap.size A xs) (hl : n = xs.length) (hn : n ≤ 2000000)
  : Calls Tryz.prog 57 #[.slice A n c, .int .i64 o, .int .i64 k] w fun e w' => e = .returned (.int .i64 (sumLn xs o k)) ∧ Up w w' := by
  subst hl; exact sumOf_impl A xs c o k w hr hn
set_option maxHeartbeats 1600000 in
theorem areLines_impl (A : Option Addr) (xs : List Ln) (c : Nat) (w : World) (hr : Rd w w.heap.size A xs) (hc : xs.length ≤ c) (hn : xs.length ≤ 2000000)
  : Calls Tryz.prog 55 #[.slice A xs.length c] w fun e w' => e = .returned (.bool (linesB xs)) ∧ Up w w' := by
  by_cases h200 : xs.length ≤ 200
  · go_enter Tryz.func55, Tryz.ntmps55
    go_wp2
    go_loopw [12] (fun i wr => ∃ j : Nat, j ≤ xs.length ∧ i = .int .i64 j ∧ Hid (allTo j (lineAt xs) = true) ∧ Up w wr) (fun i _ => xs.length - (intOf i).toNat)
    case atStart => exact ⟨0, by omega, rfl, allTo_zero _, by (repeat (first | exact Up.rfl' _ | (refine Up.al _ ?_) | (refine Up.dr _ ?_) | (refine Up.dr1 ?_) | (refine Up.sc ?_ (by first | exact Nat.le_refl _ | (simp; done) | omega) _) | (refine Up.step (by assumption) ?_)))⟩
    case round =>
      obtain ⟨i, hi, rfl, he, hb⟩ := hrel
      by_cases hlt : i < xs.length
      · obtain ⟨x, gx⟩ := get_of_lt hlt
        obtain ⟨b, off, rfl, hbb, c0, c1, c2, c3⟩ := (hr.below hb).ln gx
        have Gx := Lib.hid gx
        clear gx
        go_wp2
        generalize hwb : wr.alloc (.cells #[I x.o, I x.k, I x.a, I x.t] 95) = wb
        have d0 : wb.cell? ⟨wr.heap.size, 0, none⟩ = some (I x.o) := by rw [← hwb]; simp [go_sem]
        have d1 : wb.cell? ⟨wr.heap.size, 1, none⟩ = some (I x.k) := by rw [← hwb]; simp [go_sem]
        have d2 : wb.cell? ⟨wr.heap.size, 2, none⟩ = some (I x.a) := by rw [← hwb]; simp [go_sem]
        have d3 : wb.cell? ⟨wr.heap.size, 3, none⟩ = some (I x.t) := by rw [← hwb]; simp [go_sem]
        have hub : Up wr wb := by rw [← hwb]; (repeat (first | exact Up.rfl' _ | (refine Up.al _ ?_) | (refine Up.dr _ ?_) | (refine Up.dr1 ?_) | (refine Up.sc ?_ (by first | exact Nat.le_refl _ | (simp; done) | omega) _) | (refine Up.step (by assumption) ?_)))
        clear hwb c0 c1 c2 c3
        go_cut [12, 34] (fun s12 s34 wx => s12 = .int .i64 i ∧ s34 = .bool (badAt xs i x) ∧ Up wb wx)
        case first =>
          cases hL : lineB x.o x.k x.a x.t with
          | false =>
            have HB := Lib.hid (bad_line (xs := xs) (i := i) hL)
            (have Ed0 := Ups.cell d0; have Ed1 := Ups.cell d1; have Ed2 := Ups.cell d2; have Ed3 := Ups.cell d3; refine wp_region_up (by kernel_rfl) (by kernel_rfl) ?_; (repeat (go_big_quiet_step ((go_at_call 140; exact Ups.call (isLine_impl _ _ _ _ _))))); refine wpQuiet_nil ?_; intro wq1 hq1; clear Ed0 Ed1 Ed2 Ed3; replace d0 := cellUp d0 hq1; replace d1 := cellUp d1 hq1; replace d2 := cellUp d2 hq1; replace d3 := cellUp d3 hq1)
            go_wp2
            go_meet
            exact ⟨rfl, by rw [HB.out], by (repeat (first | exact Up.rfl' _ | (refine Up.al _ ?_) | (refine Up.dr _ ?_) | (refine Up.dr1 ?_) | (refine Up.sc ?_ (by first | exact Nat.le_refl _ | (simp; done) | omega) _) | (refine Up.step (by assumption) ?_)))⟩
          | true =>
            rcases Nat.eq_zero_or_pos i with h0' | h0
            · have h0 : i ≤ 0 := by omega
              clear h0'
              have HB := Lib.hid (bad_first (xs := xs) hL h0)
              have t0 : decide ((0 : Int) < (i : Int)) = false := decide_eq_false (by omega)
              have t1 : decide (0 < i) = false := decide_eq_false (by omega)
              (have Ed0 := Ups.cell d0; have Ed1 := Ups.cell d1; have Ed2 := Ups.cell d2; have Ed3 := Ups.cell d3; refine wp_region_up (by kernel_rfl) (by kernel_rfl) ?_; (repeat (go_big_quiet_step ((go_at_call 140; exact Ups.call (isLine_impl _ _ _ _ _))))); refine wpQuiet_nil ?_; intro wq1 hq1; clear Ed0 Ed1 Ed2 Ed3; replace d0 := cellUp d0 hq1; replace d1 := cellUp d1 hq1; replace d2 := cellUp d2 hq1; replace d3 := cellUp d3 hq1)
              go_wp2
              go_meet
              exact ⟨rfl, by rw [HB.out], by (repeat (first | exact Up.rfl' _ | (refine Up.al _ ?_) | (refine Up.dr _ ?_) | (refine Up.dr1 ?_) | (refine Up.sc ?_ (by first | exact Nat.le_refl _ | (simp; done) | omega) _) | (refine Up.step (by assumption) ?_)))⟩
            · obtain ⟨m, rfl⟩ : ∃ m, i = m + 1 := ⟨i - 1, by omega⟩
              obtain ⟨y, gy⟩ := get_of_lt (xs := xs) (i := m) (by omega)
              obtain ⟨b', off', hA, _, _, _, _, p3⟩ := ((hr.up hb).up hub).ln gy
              obtain ⟨rfl, rfl⟩ : b = b' ∧ off = off' := by simpa using hA
              have HB := Lib.hid (bad_next (x := x) hL gy)
              clear hA gy hr
              have t0 : decide ((0 : Int) < (m : Int) + 1) = true := decide_eq_true (by omega)
              have t1 : decide (0 < m + 1) = true := by simp
              have wm : IntKind.i64.wrap (m : Int) = m := IntWalk.i64_in _ (by omega)
              have wm1 : IntKind.i64.wrap ((m : Int) + 1 - 1) = m := by rw [IntWalk.i64_in _ (by omega)]; omega
              have bm0 : (0 : Int) ≤ (m : Int) := by omega
              have bm1 : (m : Int) < (xs.length : Int) := by omega
              (have Ed0 := Ups.cell d0; have Ed1 := Ups.cell d1; have Ed2 := Ups.cell d2; have Ed3 := Ups.cell d3; have Ep3 := Ups.cell p3; refine wp_region_up (by kernel_rfl) (by kernel_rfl) ?_; (repeat (go_big_quiet_step ((go_at_call 140; exact Ups.call (isLine_impl _ _ _ _ _))))); refine wpQuiet_nil ?_; intro wq1 hq1; clear Ed0 Ed1 Ed2 Ed3 Ep3; replace d0 := cellUp d0 hq1; replace d1 := cellUp d1 hq1; replace d2 := cellUp d2 hq1; replace d3 := cellUp d3 hq1; replace p3 := cellUp p3 hq1)
              go_wp2
              go_meet
              exact ⟨by go_num, by rw [HB.out], by (repeat (first | exact Up.rfl' _ | (refine Up.al _ ?_) | (refine Up.dr _ ?_) | (refine Up.dr1 ?_) | (refine Up.sc ?_ (by first | exact Nat.le_refl _ | (simp; done) | omega) _) | (refine Up.step (by assumption) ?_)))⟩
        case rest =>
          obtain ⟨rfl, rfl, hbc⟩ := hcut
          replace d0 := cellUp d0 hbc
          replace d1 := cellUp d1 hbc
          replace d2 := cellUp d2 hbc
          replace d3 := cellUp d3 hbc
          cases hbad : badAt xs i x with
          | true =>
            have HR := Lib.hid (linesB_bad Gx.out hbad)
            go_wp2
            go_ret
            exact ⟨retb HR.out.symm, by (repeat (first | exact Up.rfl' _ | (refine Up.al _ ?_) | (refine Up.dr _ ?_) | (refine Up.dr1 ?_) | (refine Up.sc ?_ (by first | exact Nat.le_refl _ | (simp; done) | omega) _) | (refine Up.step (by assumption) ?_)))⟩
          | false =>
            have bi0 : (0 : Int) ≤ (i : Int) := by omega
            have bi1 : (i : Int) ≤ (c : Int) := by omega
            have bc0 : ¬ c = 0 := by omega
            have hrc := (hr.up (show Up w wc by (repeat (first | exact Up.rfl' _ | (refine Up.al _ ?_) | (refine Up.dr _ ?_) | (refine Up.dr1 ?_) | (refine Up.sc ?_ (by first | exact Nat.le_refl _ | (simp; done) | omega) _) | (refine Up.step (by assumption) ?_))))).take_ i
            have hli : i = (xs.take i).length := by simp; omega
            have HR := Lib.hid hrc
            have HL := Lib.hid hli
            have HK := Lib.hid (kind_of (line_of_bad hbad))
            have HBad := Lib.hid hbad
            clear hrc hli hr hbad
            go_wp2
            (have Ed0 := Ups.cell d0; have Ed1 := Ups.cell d1; have Ed2 := Ups.cell d2; have Ed3 := Ups.cell d3; refine wp_region_up (by kernel_rfl) (by kernel_rfl) ?_; (repeat (go_big_quiet_step ((go_at_call 57; exact Ups.call (sumOf_impl_n _ (xs.take i) _ _ _ _ _ (HR.out.up (Up.step (Ups.up _) (by (repeat (first | exact Up.rfl' _ | (refine Up.al _ ?_) | (refine Up.dr _ ?_) | (refine Up.dr1 ?_) | (refine Up.sc ?_ (by first | exact Nat.le_refl _ | (simp; done) | omega) _) | (refine Up.step (by assumption) ?_)))))) HL.out (by omega)))))); refine wpQuiet_nil ?_; intro wq1 hq1; clear Ed0 Ed1 Ed2 Ed3; replace d0 := cellUp d0 hq1; replace d1 := cellUp d1 hq1; replace d2 := cellUp d2 hq1; replace d3 := cellUp d3 hq1)
            go_wp2
            (have Ed0 := Ups.cell d0; have Ed1 := Ups.cell d1; have Ed2 := Ups.cell d2; have Ed3 := Ups.cell d3; refine wp_region_up (by kernel_rfl) (by kernel_rfl) ?_; (repeat (go_big_quiet_step ((go_at_call 57; exact Ups.call (sumOf_impl_n _ (xs.take i) _ _ _ _ _ (HR.out.up (Up.step (Ups.up _) (by (repeat (first | exact Up.rfl' _ | (refine Up.al _ ?_) | (refine Up.dr _ ?_) | (refine Up.dr1 ?_) | (refine Up.sc ?_ (by first | exact Nat.le_refl _ | (simp; done) | omega) _) | (refine Up.step (by assumption) ?_)))))) HL.out (by omega)))))); refine wpQuiet_nil ?_; intro wq2 hq2; clear Ed0 Ed1 Ed2 Ed3; replace d0 := cellUp d0 hq2; replace d1 := cellUp d1 hq2; replace d2 := cellUp d2 hq2; replace d3 := cellUp d3 hq2)
            rcases HK.out with hk | hk | hk
            · have k1 : (x.k == 1) = true := by simp [hk]
              have hfit := fit1 (b := xs.take i) hk
              clear hk
              cases h1 : decide (0 < sumLn (xs.take i) x.o 1) with
              | true =>
                have HF := Lib.hid (linesB_unfit Gx.out (hfit.trans (by rw [h1]; rfl)))
                clear hfit
                go_wp2
                go_ret
                exact ⟨retb HF.out.symm, by (repeat (first | exact Up.rfl' _ | (refine Up.al _ ?_) | (refine Up.dr _ ?_) | (refine Up.dr1 ?_) | (refine Up.sc ?_ (by first | exact Nat.le_refl _ | (simp; done) | omega) _) | (refine Up.step (by assumption) ?_)))⟩
              | false =>
                have HF := Lib.hid (lineAt_ok Gx.out HBad.out (hfit.trans (by rw [h1]; rfl)))
                clear hfit
                go_wp2
                exact ⟨⟨i + 1, by omega, by go_num, allTo_succ he.out HF.out, by (repeat (first | exact Up.rfl' _ | (refine Up.al _ ?_) | (refine Up.dr _ ?_) | (refine Up.dr1 ?_) | (refine Up.sc ?_ (by first | exact Nat.le_refl _ | (simp; done) | omega) _) | (refine Up.step (by assumption) ?_)))⟩, by simp [intOf]; omega⟩
            · have k1 : (x.k == 1) = false := by simp [hk]
              have k2 : (x.k == 2) = true := by simp [hk]
              have hfit := fit2 (b := xs.take i) hk
              clear hk
              cases h1 : decide (sumLn (xs.take i) x.o 1 < wrap64 (sumLn (xs.take i) x.o 2 + x.a)) with
              | true =>
                have HF := Lib.hid (linesB_unfit Gx.out (hfit.trans (by rw [h1]; rfl)))
                clear hfit
                go_wp2
                go_ret
                exact ⟨retb HF.out.symm, by (repeat (first | exact Up.rfl' _ | (refine Up.al _ ?_) | (refine Up.dr _ ?_) | (refine Up.dr1 ?_) | (refine Up.sc ?_ (by first | exact Nat.le_refl _ | (simp; done) | omega) _) | (refine Up.step (by assumption) ?_)))⟩
              | false =>
                have HF := Lib.hid (lineAt_ok Gx.out HBad.out (hfit.trans (by rw [h1]; rfl)))
                clear hfit
                go_wp2
                exact ⟨⟨i + 1, by omega, by go_num, allTo_succ he.out HF.out, by (repeat (first | exact Up.rfl' _ | (refine Up.al _ ?_) | (refine Up.dr _ ?_) | (refine Up.dr1 ?_) | (refine Up.sc ?_ (by first | exact Nat.le_refl _ | (simp; done) | omega) _) | (refine Up.step (by assumption) ?_)))⟩, by simp [intOf]; omega⟩
            · have k1 : (x.k == 1) = false := by simp [hk]
              have k2 : (x.k == 2) = false := by simp [hk]
              have k3 : (x.k == 3) = true := by simp [hk]
              have hfit := fit3 (b := xs.take i) hk
              clear hk
              cases h1 : decide (0 < sumLn (xs.take i) x.o 3) with
              | true =>
                have HF := Lib.hid (linesB_unfit Gx.out (hfit.trans (by rw [h1]; rfl)))
                clear hfit
                go_wp2
                (have Ed0 := Ups.cell d0; have Ed1 := Ups.cell d1; have Ed2 := Ups.cell d2; have Ed3 := Ups.cell d3; refine wp_region_up (by kernel_rfl) (by kernel_rfl) ?_; (repeat (go_big_quiet_step ((go_at_call 57; exact Ups.call (sumOf_impl_n _ (xs.take i) _ _ _ _ _ (HR.out.up (Up.step (Ups.up _) (by (repeat (first | exact Up.rfl' _ | (refine Up.al _ ?_) | (refine Up.dr _ ?_) | (refine Up.dr1 ?_) | (refine Up.sc ?_ (by first | exact Nat.le_refl _ | (simp; done) | omega) _) | (refine Up.step (by assumption) ?_)))))) HL.out (by omega)))))); refine wpQuiet_nil ?_; intro wq3 hq3; clear Ed0 Ed1 Ed2 Ed3; replace d0 := cellUp d0 hq3; replace d1 := cellUp d1 hq3; replace d2 := cellUp d2 hq3; replace d3 := cellUp d3 hq3)
                go_wp2
                go_ret
                exact ⟨retb HF.out.symm, by (repeat (first | exact Up.rfl' _ | (refine Up.al _ ?_) | (refine Up.dr _ ?_) | (refine Up.dr1 ?_) | (refine Up.sc ?_ (by first | exact Nat.le_refl _ | (simp; done) | omega) _) | (refine Up.step (by assumption) ?_)))⟩
              | false =>
              cases h2 : (sumLn (xs.take i) x.o 2 != sumLn (xs.take i) x.o 1) with
              | true =>
                have HF := Lib.hid (linesB_unfit Gx.out (hfit.trans (by rw [h1]; simp at h2; simp [h2])))
                clear hfit
                go_wp2
                (have Ed0 := Ups.cell d0; have Ed1 := Ups.cell d1; have Ed2 := Ups.cell d2; have Ed3 := Ups.cell d3; refine wp_region_up (by kernel_rfl) (by kernel_rfl) ?_; (repeat (go_big_quiet_step ((go_at_call 57; exact Ups.call (sumOf_impl_n _ (xs.take i) _ _ _ _ _ (HR.out.up (Up.step (Ups.up _) (by (repeat (first | exact Up.rfl' _ | (refine Up.al _ ?_) | (refine Up.dr _ ?_) | (refine Up.dr1 ?_) | (refine Up.sc ?_ (by first | exact Nat.le_refl _ | (simp; done) | omega) _) | (refine Up.step (by assumption) ?_)))))) HL.out (by omega)))))); refine wpQuiet_nil ?_; intro wq3 hq3; clear Ed0 Ed1 Ed2 Ed3; replace d0 := cellUp d0 hq3; replace d1 := cellUp d1 hq3; replace d2 := cellUp d2 hq3; replace d3 := cellUp d3 hq3)
                go_wp2
                go_ret
                exact ⟨retb HF.out.symm, by (repeat (first | exact Up.rfl' _ | (refine Up.al _ ?_) | (refine Up.dr _ ?_) | (refine Up.dr1 ?_) | (refine Up.sc ?_ (by first | exact Nat.le_refl _ | (simp; done) | omega) _) | (refine Up.step (by assumption) ?_)))⟩
              | false =>
              cases h3 : decide (sumLn (xs.take i) x.o 1 < x.a) with
              | true =>
                have HF := Lib.hid (linesB_unfit Gx.out (hfit.trans (by rw [h1, h3]; simp)))
                clear hfit
                go_wp2
                (have Ed0 := Ups.cell d0; have Ed1 := Ups.cell d1; have Ed2 := Ups.cell d2; have Ed3 := Ups.cell d3; refine wp_region_up (by kernel_rfl) (by kernel_rfl) ?_; (repeat (go_big_quiet_step ((go_at_call 57; exact Ups.call (sumOf_impl_n _ (xs.take i) _ _ _ _ _ (HR.out.up (Up.step (Ups.up _) (by (repeat (first | exact Up.rfl' _ | (refine Up.al _ ?_) | (refine Up.dr _ ?_) | (refine Up.dr1 ?_) | (refine Up.sc ?_ (by first | exact Nat.le_refl _ | (simp; done) | omega) _) | (refine Up.step (by assumption) ?_)))))) HL.out (by omega)))))); refine wpQuiet_nil ?_; intro wq3 hq3; clear Ed0 Ed1 Ed2 Ed3; replace d0 := cellUp d0 hq3; replace d1 := cellUp d1 hq3; replace d2 := cellUp d2 hq3; replace d3 := cellUp d3 hq3)
                go_wp2
                go_ret
                exact ⟨retb HF.out.symm, by (repeat (first | exact Up.rfl' _ | (refine Up.al _ ?_) | (refine Up.dr _ ?_) | (refine Up.dr1 ?_) | (refine Up.sc ?_ (by first | exact Nat.le_refl _ | (simp; done) | omega) _) | (refine Up.step (by assumption) ?_)))⟩
              | false =>
                have HF := Lib.hid (lineAt_ok Gx.out HBad.out (hfit.trans (by rw [h1, h3]; simp at h2; simp [h2])))
                clear hfit
                go_wp2
                (have Ed0 := Ups.cell d0; have Ed1 := Ups.cell d1; have Ed2 := Ups.cell d2; have Ed3 := Ups.cell d3; refine wp_region_up (by kernel_rfl) (by kernel_rfl) ?_; (repeat (go_big_quiet_step ((go_at_call 57; exact Ups.call (sumOf_impl_n _ (xs.take i) _ _ _ _ _ (HR.out.up (Up.step (Ups.up _) (by (repeat (first | exact Up.rfl' _ | (refine Up.al _ ?_) | (refine Up.dr _ ?_) | (refine Up.dr1 ?_) | (refine Up.sc ?_ (by first | exact Nat.le_refl _ | (simp; done) | omega) _) | (refine Up.step (by assumption) ?_)))))) HL.out (by omega)))))); refine wpQuiet_nil ?_; intro wq3 hq3; clear Ed0 Ed1 Ed2 Ed3; replace d0 := cellUp d0 hq3; replace d1 := cellUp d1 hq3; replace d2 := cellUp d2 hq3; replace d3 := cellUp d3 hq3)
                go_wp2
                exact ⟨⟨i + 1, by omega, by go_num, allTo_succ he.out HF.out, by (repeat (first | exact Up.rfl' _ | (refine Up.al _ ?_) | (refine Up.dr _ ?_) | (refine Up.dr1 ?_) | (refine Up.sc ?_ (by first | exact Nat.le_refl _ | (simp; done) | omega) _) | (refine Up.step (by assumption) ?_)))⟩, by simp [intOf]; omega⟩
      · obtain rfl : i = xs.length := by omega
        have HR := Lib.hid (linesB_all h200 he.out)
        go_wp2
        go_ret
        exact ⟨retb HR.out.symm, by (repeat (first | exact Up.rfl' _ | (refine Up.al _ ?_) | (refine Up.dr _ ?_) | (refine Up.dr1 ?_) | (refine Up.sc ?_ (by first | exact Nat.le_refl _ | (simp; done) | omega) _) | (refine Up.step (by assumption) ?_)))⟩
  · have HR := Lib.hid (linesB_long h200)
    go_enter Tryz.func55, Tryz.ntmps55
    go_wp2
    go_ret
    exact ⟨retb HR.out.symm, by (repeat (first | exact Up.rfl' _ | (refine Up.al _ ?_) | (refine Up.dr _ ?_) | (refine Up.dr1 ?_) | (refine Up.sc ?_ (by first | exact Nat.le_refl _ | (simp; done) | omega) _) | (refine Up.step (by assumption) ?_)))⟩
end Go.Proofs.YtjkpcfbmmkmoaaaGreat

namespace Go.Proofs.YtjkpcfbmmkmoaaaGreat
set_option maxRecDepth 10000
open Go.RowKit
theorem sumOf_spec_n (A : Option Addr) (xs : List Ln) (n c : Nat) (o k : Int) (w : World) (hr : Rd w w.heap.size A xs) (hl : n = xs.length) (hn : n ≤ 2000000)
  : Calls Tryz.prog 124 #[.slice A n c, .int .i64 o, .int .i64 k] w fun e w' => e = .returned (.int .i64 (sumLn xs o k)) ∧ Up w w' := by
  subst hl; exact sumOf_spec A xs c o k w hr hn
theorem l11Count_any (A : Option Addr) (xs : List Ln) (c : Nat) (o k : Int) (w : World) (hr : Rd w w.heap.size A xs) (hn : xs.length ≤ 2000000)
  : Calls Tryz.prog 125 #[.slice A xs.length c, .int .i64 o, .int .i64 k] w fun e w' => e = .returned (.int .i64 (cntLn xs o k)) ∧ Up w w' := by
  go_enter Tryz.func125, Tryz.ntmps125
  go_wp2
  go_loopw [7, 8] (fun n7 i wr => ∃ j : Nat, j ≤ xs.length ∧ i = .int .i64 j ∧ n7 = .int .i64 (cntLn (xs.take j) o k) ∧ Up w wr) (fun _ i _ => xs.length - (intOf i).toNat)
  case atStart => exact ⟨0, by omega, rfl, rfl, Below.refl _ _⟩
  case round =>
    obtain ⟨i, hi, rfl, rfl, hb⟩ := hrel
    by_cases hlt : i < xs.length
    · obtain ⟨x, hx⟩ := get_of_lt hlt
      obtain ⟨b, off, rfl, hbb, c0, c1, c2, c3⟩ := (hr.below hb).ln hx
      have S : Hid (cntLn (xs.take (i+1)) o k = cntStep o k (cntLn (xs.take i) o k) x) := foldl_snoc hx _ _
      clear hr hx
      go_wp2
      all_goals exact ⟨⟨i + 1, by omega, by go_num, by rw [S.out]; simp [cntStep, *], by (repeat (first | exact Up.rfl' _ | (refine Up.al _ ?_) | (refine Up.dr _ ?_) | (refine Up.dr1 ?_) | (refine Up.sc ?_ (by first | exact Nat.le_refl _ | (simp; done) | omega) _) | (refine Up.step (by assumption) ?_)))⟩, by simp [intOf]; omega⟩
    · go_wp2
      go_ret
      obtain rfl : i = xs.length := by omega
      exact ⟨by simp, hb⟩
theorem l11Count_n (A : Option Addr) (xs : List Ln) (n c : Nat) (o k : Int) (w : World) (hr : Rd w w.heap.size A xs) (hl : n = xs.length) (hn : n ≤ 2000000)
  : Calls Tryz.prog 125 #[.slice A n c, .int .i64 o, .int .i64 k] w fun e w' => e = .returned (.int .i64 (cntLn xs o k)) ∧ Up w w' := by
  subst hl; exact l11Count_any A xs c o k w hr hn
set_option maxHeartbeats 1600000 in
theorem areLines_spec (A : Option Addr) (xs : List Ln) (c : Nat) (w : World) (hr : Rd w w.heap.size A xs) (hc : xs.length ≤ c) (hn : xs.length ≤ 2000000)
  : Calls Tryz.prog 45 #[.slice A xs.length c] w fun e w' => e = .returned (.bool (linesB xs)) ∧ Up w w' := by
  by_cases h200 : xs.length ≤ 200
  · go_enter Tryz.func45, Tryz.ntmps45
    go_wp2
    go_loopw [3] (fun i wr => ∃ j : Nat, j ≤ xs.length ∧ i = .int .i64 j ∧ Hid (allTo j (lineAt xs) = true) ∧ Up w wr) (fun i _ => xs.length - (intOf i).toNat)
    case atStart => exact ⟨0, by omega, rfl, allTo_zero _, by (repeat (first | exact Up.rfl' _ | (refine Up.al _ ?_) | (refine Up.dr _ ?_) | (refine Up.dr1 ?_) | (refine Up.sc ?_ (by first | exact Nat.le_refl _ | (simp; done) | omega) _) | (refine Up.step (by assumption) ?_)))⟩
    case round =>
      obtain ⟨i, hi, rfl, he, hb⟩ := hrel
      by_cases hlt : i < xs.length
      · obtain ⟨x, gx⟩ := get_of_lt hlt
        obtain ⟨b, off, rfl, hbb, c0, c1, c2, c3⟩ := (hr.below hb).ln gx
        have Gx := Lib.hid gx
        clear gx
        go_wp2
        generalize hwb : wr.alloc (.cells #[I x.o, I x.k, I x.a, I x.t] 95) = wb
        have d0 : wb.cell? ⟨wr.heap.size, 0, none⟩ = some (I x.o) := by rw [← hwb]; simp [go_sem]
        have d1 : wb.cell? ⟨wr.heap.size, 1, none⟩ = some (I x.k) := by rw [← hwb]; simp [go_sem]
        have d2 : wb.cell? ⟨wr.heap.size, 2, none⟩ = some (I x.a) := by rw [← hwb]; simp [go_sem]
        have d3 : wb.cell? ⟨wr.heap.size, 3, none⟩ = some (I x.t) := by rw [← hwb]; simp [go_sem]
        have hub : Up wr wb := by rw [← hwb]; (repeat (first | exact Up.rfl' _ | (refine Up.al _ ?_) | (refine Up.dr _ ?_) | (refine Up.dr1 ?_) | (refine Up.sc ?_ (by first | exact Nat.le_refl _ | (simp; done) | omega) _) | (refine Up.step (by assumption) ?_)))
        clear hwb c0 c1 c2 c3
        go_cut [3, 37] (fun s12 s34 wx => s12 = .int .i64 i ∧ s34 = .bool (badAt xs i x) ∧ Up wb wx)
        case first =>
          cases hL : lineB x.o x.k x.a x.t with
          | false =>
            have HB := Lib.hid (bad_line (xs := xs) (i := i) hL)
            (have Ed0 := Ups.cell d0; have Ed1 := Ups.cell d1; have Ed2 := Ups.cell d2; have Ed3 := Ups.cell d3; refine wp_region_up (by kernel_rfl) (by kernel_rfl) ?_; (repeat (go_big_quiet_step ((go_at_call 123; exact Ups.call (isLine_spec _ _ _ _ _))))); refine wpQuiet_nil ?_; intro wq1 hq1; clear Ed0 Ed1 Ed2 Ed3; replace d0 := cellUp d0 hq1; replace d1 := cellUp d1 hq1; replace d2 := cellUp d2 hq1; replace d3 := cellUp d3 hq1)
            go_wp2
            go_meet
            exact ⟨rfl, by rw [HB.out], by (repeat (first | exact Up.rfl' _ | (refine Up.al _ ?_) | (refine Up.dr _ ?_) | (refine Up.dr1 ?_) | (refine Up.sc ?_ (by first | exact Nat.le_refl _ | (simp; done) | omega) _) | (refine Up.step (by assumption) ?_)))⟩
          | true =>
            rcases Nat.eq_zero_or_pos i with h0' | h0
            · have h0 : i ≤ 0 := by omega
              clear h0'
              have HB := Lib.hid (bad_first (xs := xs) hL h0)
              have t0 : decide ((0 : Int) < (i : Int)) = false := decide_eq_false (by omega)
              have t1 : decide (0 < i) = false := decide_eq_false (by omega)
              (have Ed0 := Ups.cell d0; have Ed1 := Ups.cell d1; have Ed2 := Ups.cell d2; have Ed3 := Ups.cell d3; refine wp_region_up (by kernel_rfl) (by kernel_rfl) ?_; (repeat (go_big_quiet_step ((go_at_call 123; exact Ups.call (isLine_spec _ _ _ _ _))))); refine wpQuiet_nil ?_; intro wq1 hq1; clear Ed0 Ed1 Ed2 Ed3; replace d0 := cellUp d0 hq1; replace d1 := cellUp d1 hq1; replace d2 := cellUp d2 hq1; replace d3 := cellUp d3 hq1)
              go_wp2
              go_meet
              exact ⟨rfl, by rw [HB.out], by (repeat (first | exact Up.rfl' _ | (refine Up.al _ ?_) | (refine Up.dr _ ?_) | (refine Up.dr1 ?_) | (refine Up.sc ?_ (by first | exact Nat.le_refl _ | (simp; done) | omega) _) | (refine Up.step (by assumption) ?_)))⟩
            · obtain ⟨m, rfl⟩ : ∃ m, i = m + 1 := ⟨i - 1, by omega⟩
              obtain ⟨y, gy⟩ := get_of_lt (xs := xs) (i := m) (by omega)
              obtain ⟨b', off', hA, _, _, _, _, p3⟩ := ((hr.up hb).up hub).ln gy
              obtain ⟨rfl, rfl⟩ : b = b' ∧ off = off' := by simpa using hA
              have HB := Lib.hid (bad_next (x := x) hL gy)
              clear hA gy hr
              have t0 : decide ((0 : Int) < (m : Int) + 1) = true := decide_eq_true (by omega)
              have t1 : decide (0 < m + 1) = true := by simp
              have wm : IntKind.i64.wrap (m : Int) = m := IntWalk.i64_in _ (by omega)
              have wm1 : IntKind.i64.wrap ((m : Int) + 1 - 1) = m := by rw [IntWalk.i64_in _ (by omega)]; omega
              have bm0 : (0 : Int) ≤ (m : Int) := by omega
              have bm1 : (m : Int) < (xs.length : Int) := by omega
              (have Ed0 := Ups.cell d0; have Ed1 := Ups.cell d1; have Ed2 := Ups.cell d2; have Ed3 := Ups.cell d3; have Ep3 := Ups.cell p3; refine wp_region_up (by kernel_rfl) (by kernel_rfl) ?_; (repeat (go_big_quiet_step ((go_at_call 123; exact Ups.call (isLine_spec _ _ _ _ _))))); refine wpQuiet_nil ?_; intro wq1 hq1; clear Ed0 Ed1 Ed2 Ed3 Ep3; replace d0 := cellUp d0 hq1; replace d1 := cellUp d1 hq1; replace d2 := cellUp d2 hq1; replace d3 := cellUp d3 hq1; replace p3 := cellUp p3 hq1)
              go_wp2
              go_meet
              exact ⟨by go_num, by rw [HB.out], by (repeat (first | exact Up.rfl' _ | (refine Up.al _ ?_) | (refine Up.dr _ ?_) | (refine Up.dr1 ?_) | (refine Up.sc ?_ (by first | exact Nat.le_refl _ | (simp; done) | omega) _) | (refine Up.step (by assumption) ?_)))⟩
        case rest =>
          obtain ⟨rfl, rfl, hbc⟩ := hcut
          replace d0 := cellUp d0 hbc
          replace d1 := cellUp d1 hbc
          replace d2 := cellUp d2 hbc
          replace d3 := cellUp d3 hbc
          cases hbad : badAt xs i x with
          | true =>
            have HR := Lib.hid (linesB_bad Gx.out hbad)
            go_wp2
            go_ret
            exact ⟨retb HR.out.symm, by (repeat (first | exact Up.rfl' _ | (refine Up.al _ ?_) | (refine Up.dr _ ?_) | (refine Up.dr1 ?_) | (refine Up.sc ?_ (by first | exact Nat.le_refl _ | (simp; done) | omega) _) | (refine Up.step (by assumption) ?_)))⟩
          | false =>
            have bi0 : (0 : Int) ≤ (i : Int) := by omega
            have bi1 : (i : Int) ≤ (c : Int) := by omega
            have bc0 : ¬ c = 0 := by omega
            have hrc := (hr.up (show Up w wc by (repeat (first | exact Up.rfl' _ | (refine Up.al _ ?_) | (refine Up.dr _ ?_) | (refine Up.dr1 ?_) | (refine Up.sc ?_ (by first | exact Nat.le_refl _ | (simp; done) | omega) _) | (refine Up.step (by assumption) ?_))))).take_ i
            have hli : i = (xs.take i).length := by simp; omega
            have HR := Lib.hid hrc
            have HL := Lib.hid hli
            have HK := Lib.hid (kind_of (line_of_bad hbad))
            have HBad := Lib.hid hbad
            clear hrc hli hr hbad
            rcases HK.out with hk | hk | hk
            · have k1 : (x.k == 1) = true := by simp [hk]
              have hfit := fit1 (b := xs.take i) hk
              clear hk
              cases h1 : decide (0 < sumLn (xs.take i) x.o 1) with
              | true =>
                have HF := Lib.hid (linesB_unfit Gx.out (hfit.trans (by rw [h1]; rfl)))
                clear hfit
                go_wp2_with (go_at_call 124; refine (sumOf_spec_n _ (xs.take i) _ _ _ _ _ (HR.out.up (by (repeat (first | exact Up.rfl' _ | (refine Up.al _ ?_) | (refine Up.dr _ ?_) | (refine Up.dr1 ?_) | (refine Up.sc ?_ (by first | exact Nat.le_refl _ | (simp; done) | omega) _) | (refine Up.step (by assumption) ?_))))) HL.out (by omega)).mono ?_; rintro e w1 ⟨rfl, hb1⟩; replace d0 := cellUp d0 hb1; replace d1 := cellUp d1 hb1; replace d2 := cellUp d2 hb1; replace d3 := cellUp d3 hb1)
                go_ret
                exact ⟨retb HF.out.symm, by (repeat (first | exact Up.rfl' _ | (refine Up.al _ ?_) | (refine Up.dr _ ?_) | (refine Up.dr1 ?_) | (refine Up.sc ?_ (by first | exact Nat.le_refl _ | (simp; done) | omega) _) | (refine Up.step (by assumption) ?_)))⟩
              | false =>
                have HF := Lib.hid (lineAt_ok Gx.out HBad.out (hfit.trans (by rw [h1]; rfl)))
                clear hfit
                go_wp2_with (go_at_call 124; refine (sumOf_spec_n _ (xs.take i) _ _ _ _ _ (HR.out.up (by (repeat (first | exact Up.rfl' _ | (refine Up.al _ ?_) | (refine Up.dr _ ?_) | (refine Up.dr1 ?_) | (refine Up.sc ?_ (by first | exact Nat.le_refl _ | (simp; done) | omega) _) | (refine Up.step (by assumption) ?_))))) HL.out (by omega)).mono ?_; rintro e w1 ⟨rfl, hb1⟩; replace d0 := cellUp d0 hb1; replace d1 := cellUp d1 hb1; replace d2 := cellUp d2 hb1; replace d3 := cellUp d3 hb1)
                exact ⟨⟨i + 1, by omega, by go_num, allTo_succ he.out HF.out, by (repeat (first | exact Up.rfl' _ | (refine Up.al _ ?_) | (refine Up.dr _ ?_) | (refine Up.dr1 ?_) | (refine Up.sc ?_ (by first | exact Nat.le_refl _ | (simp; done) | omega) _) | (refine Up.step (by assumption) ?_)))⟩, by simp [intOf]; omega⟩
            · have k1 : (x.k == 1) = false := by simp [hk]
              have k2 : (x.k == 2) = true := by simp [hk]
              have hfit := fit2 (b := xs.take i) hk
              clear hk
              cases h1 : decide (sumLn (xs.take i) x.o 1 < wrap64 (sumLn (xs.take i) x.o 2 + x.a)) with
              | true =>
                have HF := Lib.hid (linesB_unfit Gx.out (hfit.trans (by rw [h1]; rfl)))
                clear hfit
                go_wp2_with (go_at_call 124; refine (sumOf_spec_n _ (xs.take i) _ _ _ _ _ (HR.out.up (by (repeat (first | exact Up.rfl' _ | (refine Up.al _ ?_) | (refine Up.dr _ ?_) | (refine Up.dr1 ?_) | (refine Up.sc ?_ (by first | exact Nat.le_refl _ | (simp; done) | omega) _) | (refine Up.step (by assumption) ?_))))) HL.out (by omega)).mono ?_; rintro e w1 ⟨rfl, hb1⟩; replace d0 := cellUp d0 hb1; replace d1 := cellUp d1 hb1; replace d2 := cellUp d2 hb1; replace d3 := cellUp d3 hb1)
                (have Ed0 := Ups.cell d0; have Ed1 := Ups.cell d1; have Ed2 := Ups.cell d2; have Ed3 := Ups.cell d3; refine wp_region_up (by kernel_rfl) (by kernel_rfl) ?_; (repeat (go_big_quiet_step ((go_at_call 124; exact Ups.call (sumOf_spec_n _ (xs.take i) _ _ _ _ _ (HR.out.up (Up.step (Ups.up _) (by (repeat (first | exact Up.rfl' _ | (refine Up.al _ ?_) | (refine Up.dr _ ?_) | (refine Up.dr1 ?_) | (refine Up.sc ?_ (by first | exact Nat.le_refl _ | (simp; done) | omega) _) | (refine Up.step (by assumption) ?_)))))) HL.out (by omega)))))); refine wpQuiet_nil ?_; intro wq3 hq3; clear Ed0 Ed1 Ed2 Ed3; replace d0 := cellUp d0 hq3; replace d1 := cellUp d1 hq3; replace d2 := cellUp d2 hq3; replace d3 := cellUp d3 hq3)
                go_wp2
                go_ret
                exact ⟨retb HF.out.symm, by (repeat (first | exact Up.rfl' _ | (refine Up.al _ ?_) | (refine Up.dr _ ?_) | (refine Up.dr1 ?_) | (refine Up.sc ?_ (by first | exact Nat.le_refl _ | (simp; done) | omega) _) | (refine Up.step (by assumption) ?_)))⟩
              | false =>
                have HF := Lib.hid (lineAt_ok Gx.out HBad.out (hfit.trans (by rw [h1]; rfl)))
                clear hfit
                go_wp2_with (go_at_call 124; refine (sumOf_spec_n _ (xs.take i) _ _ _ _ _ (HR.out.up (by (repeat (first | exact Up.rfl' _ | (refine Up.al _ ?_) | (refine Up.dr _ ?_) | (refine Up.dr1 ?_) | (refine Up.sc ?_ (by first | exact Nat.le_refl _ | (simp; done) | omega) _) | (refine Up.step (by assumption) ?_))))) HL.out (by omega)).mono ?_; rintro e w1 ⟨rfl, hb1⟩; replace d0 := cellUp d0 hb1; replace d1 := cellUp d1 hb1; replace d2 := cellUp d2 hb1; replace d3 := cellUp d3 hb1)
                (have Ed0 := Ups.cell d0; have Ed1 := Ups.cell d1; have Ed2 := Ups.cell d2; have Ed3 := Ups.cell d3; refine wp_region_up (by kernel_rfl) (by kernel_rfl) ?_; (repeat (go_big_quiet_step ((go_at_call 124; exact Ups.call (sumOf_spec_n _ (xs.take i) _ _ _ _ _ (HR.out.up (Up.step (Ups.up _) (by (repeat (first | exact Up.rfl' _ | (refine Up.al _ ?_) | (refine Up.dr _ ?_) | (refine Up.dr1 ?_) | (refine Up.sc ?_ (by first | exact Nat.le_refl _ | (simp; done) | omega) _) | (refine Up.step (by assumption) ?_)))))) HL.out (by omega)))))); refine wpQuiet_nil ?_; intro wq3 hq3; clear Ed0 Ed1 Ed2 Ed3; replace d0 := cellUp d0 hq3; replace d1 := cellUp d1 hq3; replace d2 := cellUp d2 hq3; replace d3 := cellUp d3 hq3)
                go_wp2
                exact ⟨⟨i + 1, by omega, by go_num, allTo_succ he.out HF.out, by (repeat (first | exact Up.rfl' _ | (refine Up.al _ ?_) | (refine Up.dr _ ?_) | (refine Up.dr1 ?_) | (refine Up.sc ?_ (by first | exact Nat.le_refl _ | (simp; done) | omega) _) | (refine Up.step (by assumption) ?_)))⟩, by simp [intOf]; omega⟩
            · have k1 : (x.k == 1) = false := by simp [hk]
              have k2 : (x.k == 2) = false := by simp [hk]
              have k3 : (x.k == 3) = true := by simp [hk]
              have hfit := fit3 (b := xs.take i) hk
              clear hk
              have hcs := cnt_pos x.o 3 he.out (by omega)
              cases h1 : decide (0 < sumLn (xs.take i) x.o 3) with
              | true =>
                have HF := Lib.hid (linesB_unfit Gx.out (hfit.trans (by rw [h1]; rfl)))
                have h4 := hcs.trans h1
                clear hcs h1
                clear hfit
                go_wp2_with (first | (go_at_call 125; refine (l11Count_n _ (xs.take i) _ _ _ _ _ (HR.out.up (by (repeat (first | exact Up.rfl' _ | (refine Up.al _ ?_) | (refine Up.dr _ ?_) | (refine Up.dr1 ?_) | (refine Up.sc ?_ (by first | exact Nat.le_refl _ | (simp; done) | omega) _) | (refine Up.step (by assumption) ?_))))) HL.out (by omega)).mono ?_; rintro e w9 ⟨rfl, hb9⟩; replace d0 := cellUp d0 hb9; replace d1 := cellUp d1 hb9; replace d2 := cellUp d2 hb9; replace d3 := cellUp d3 hb9) | (go_at_call 124; refine (sumOf_spec_n _ (xs.take i) _ _ _ _ _ (HR.out.up (by (repeat (first | exact Up.rfl' _ | (refine Up.al _ ?_) | (refine Up.dr _ ?_) | (refine Up.dr1 ?_) | (refine Up.sc ?_ (by first | exact Nat.le_refl _ | (simp; done) | omega) _) | (refine Up.step (by assumption) ?_))))) HL.out (by omega)).mono ?_; rintro e w8 ⟨rfl, hb8⟩; replace d0 := cellUp d0 hb8; replace d1 := cellUp d1 hb8; replace d2 := cellUp d2 hb8; replace d3 := cellUp d3 hb8))
                go_ret
                exact ⟨retb HF.out.symm, by (repeat (first | exact Up.rfl' _ | (refine Up.al _ ?_) | (refine Up.dr _ ?_) | (refine Up.dr1 ?_) | (refine Up.sc ?_ (by first | exact Nat.le_refl _ | (simp; done) | omega) _) | (refine Up.step (by assumption) ?_)))⟩
              | false =>
              cases h2 : (sumLn (xs.take i) x.o 2 != sumLn (xs.take i) x.o 1) with
              | true =>
                cases h3 : decide (sumLn (xs.take i) x.o 1 < x.a) with
                | true =>
                    have HF := Lib.hid (linesB_unfit Gx.out (hfit.trans (by rw [h1]; simp at h2; simp [h2])))
                    have h4 := hcs.trans h1
                    clear hcs h1
                    clear hfit
                    go_wp2_with (first | (go_at_call 125; refine (l11Count_n _ (xs.take i) _ _ _ _ _ (HR.out.up (by (repeat (first | exact Up.rfl' _ | (refine Up.al _ ?_) | (refine Up.dr _ ?_) | (refine Up.dr1 ?_) | (refine Up.sc ?_ (by first | exact Nat.le_refl _ | (simp; done) | omega) _) | (refine Up.step (by assumption) ?_))))) HL.out (by omega)).mono ?_; rintro e w9 ⟨rfl, hb9⟩; replace d0 := cellUp d0 hb9; replace d1 := cellUp d1 hb9; replace d2 := cellUp d2 hb9; replace d3 := cellUp d3 hb9) | (go_at_call 124; refine (sumOf_spec_n _ (xs.take i) _ _ _ _ _ (HR.out.up (by (repeat (first | exact Up.rfl' _ | (refine Up.al _ ?_) | (refine Up.dr _ ?_) | (refine Up.dr1 ?_) | (refine Up.sc ?_ (by first | exact Nat.le_refl _ | (simp; done) | omega) _) | (refine Up.step (by assumption) ?_))))) HL.out (by omega)).mono ?_; rintro e w8 ⟨rfl, hb8⟩; replace d0 := cellUp d0 hb8; replace d1 := cellUp d1 hb8; replace d2 := cellUp d2 hb8; replace d3 := cellUp d3 hb8))
                    go_ret
                    exact ⟨retb HF.out.symm, by (repeat (first | exact Up.rfl' _ | (refine Up.al _ ?_) | (refine Up.dr _ ?_) | (refine Up.dr1 ?_) | (refine Up.sc ?_ (by first | exact Nat.le_refl _ | (simp; done) | omega) _) | (refine Up.step (by assumption) ?_)))⟩
                | false =>
                    have HF := Lib.hid (linesB_unfit Gx.out (hfit.trans (by rw [h1]; simp at h2; simp [h2])))
                    have h4 := hcs.trans h1
                    clear hcs h1
                    clear hfit
                    go_wp2_with (first | (go_at_call 125; refine (l11Count_n _ (xs.take i) _ _ _ _ _ (HR.out.up (by (repeat (first | exact Up.rfl' _ | (refine Up.al _ ?_) | (refine Up.dr _ ?_) | (refine Up.dr1 ?_) | (refine Up.sc ?_ (by first | exact Nat.le_refl _ | (simp; done) | omega) _) | (refine Up.step (by assumption) ?_))))) HL.out (by omega)).mono ?_; rintro e w9 ⟨rfl, hb9⟩; replace d0 := cellUp d0 hb9; replace d1 := cellUp d1 hb9; replace d2 := cellUp d2 hb9; replace d3 := cellUp d3 hb9) | (go_at_call 124; refine (sumOf_spec_n _ (xs.take i) _ _ _ _ _ (HR.out.up (by (repeat (first | exact Up.rfl' _ | (refine Up.al _ ?_) | (refine Up.dr _ ?_) | (refine Up.dr1 ?_) | (refine Up.sc ?_ (by first | exact Nat.le_refl _ | (simp; done) | omega) _) | (refine Up.step (by assumption) ?_))))) HL.out (by omega)).mono ?_; rintro e w8 ⟨rfl, hb8⟩; replace d0 := cellUp d0 hb8; replace d1 := cellUp d1 hb8; replace d2 := cellUp d2 hb8; replace d3 := cellUp d3 hb8))
                    go_ret
                    exact ⟨retb HF.out.symm, by (repeat (first | exact Up.rfl' _ | (refine Up.al _ ?_) | (refine Up.dr _ ?_) | (refine Up.dr1 ?_) | (refine Up.sc ?_ (by first | exact Nat.le_refl _ | (simp; done) | omega) _) | (refine Up.step (by assumption) ?_)))⟩
              | false =>
              cases h3 : decide (sumLn (xs.take i) x.o 1 < x.a) with
              | true =>
                have HF := Lib.hid (linesB_unfit Gx.out (hfit.trans (by rw [h1, h3]; simp)))
                have h4 := hcs.trans h1
                clear hcs h1
                clear hfit
                go_wp2_with (first | (go_at_call 125; refine (l11Count_n _ (xs.take i) _ _ _ _ _ (HR.out.up (by (repeat (first | exact Up.rfl' _ | (refine Up.al _ ?_) | (refine Up.dr _ ?_) | (refine Up.dr1 ?_) | (refine Up.sc ?_ (by first | exact Nat.le_refl _ | (simp; done) | omega) _) | (refine Up.step (by assumption) ?_))))) HL.out (by omega)).mono ?_; rintro e w9 ⟨rfl, hb9⟩; replace d0 := cellUp d0 hb9; replace d1 := cellUp d1 hb9; replace d2 := cellUp d2 hb9; replace d3 := cellUp d3 hb9) | (go_at_call 124; refine (sumOf_spec_n _ (xs.take i) _ _ _ _ _ (HR.out.up (by (repeat (first | exact Up.rfl' _ | (refine Up.al _ ?_) | (refine Up.dr _ ?_) | (refine Up.dr1 ?_) | (refine Up.sc ?_ (by first | exact Nat.le_refl _ | (simp; done) | omega) _) | (refine Up.step (by assumption) ?_))))) HL.out (by omega)).mono ?_; rintro e w8 ⟨rfl, hb8⟩; replace d0 := cellUp d0 hb8; replace d1 := cellUp d1 hb8; replace d2 := cellUp d2 hb8; replace d3 := cellUp d3 hb8))
                go_ret
                exact ⟨retb HF.out.symm, by (repeat (first | exact Up.rfl' _ | (refine Up.al _ ?_) | (refine Up.dr _ ?_) | (refine Up.dr1 ?_) | (refine Up.sc ?_ (by first | exact Nat.le_refl _ | (simp; done) | omega) _) | (refine Up.step (by assumption) ?_)))⟩
              | false =>
                have HF := Lib.hid (lineAt_ok Gx.out HBad.out (hfit.trans (by rw [h1, h3]; simp at h2; simp [h2])))
                have h4 := hcs.trans h1
                clear hcs h1
                clear hfit
                go_wp2_with (first | (go_at_call 125; refine (l11Count_n _ (xs.take i) _ _ _ _ _ (HR.out.up (by (repeat (first | exact Up.rfl' _ | (refine Up.al _ ?_) | (refine Up.dr _ ?_) | (refine Up.dr1 ?_) | (refine Up.sc ?_ (by first | exact Nat.le_refl _ | (simp; done) | omega) _) | (refine Up.step (by assumption) ?_))))) HL.out (by omega)).mono ?_; rintro e w9 ⟨rfl, hb9⟩; replace d0 := cellUp d0 hb9; replace d1 := cellUp d1 hb9; replace d2 := cellUp d2 hb9; replace d3 := cellUp d3 hb9) | (go_at_call 124; refine (sumOf_spec_n _ (xs.take i) _ _ _ _ _ (HR.out.up (by (repeat (first | exact Up.rfl' _ | (refine Up.al _ ?_) | (refine Up.dr _ ?_) | (refine Up.dr1 ?_) | (refine Up.sc ?_ (by first | exact Nat.le_refl _ | (simp; done) | omega) _) | (refine Up.step (by assumption) ?_))))) HL.out (by omega)).mono ?_; rintro e w8 ⟨rfl, hb8⟩; replace d0 := cellUp d0 hb8; replace d1 := cellUp d1 hb8; replace d2 := cellUp d2 hb8; replace d3 := cellUp d3 hb8))
                exact ⟨⟨i + 1, by omega, by go_num, allTo_succ he.out HF.out, by (repeat (first | exact Up.rfl' _ | (refine Up.al _ ?_) | (refine Up.dr _ ?_) | (refine Up.dr1 ?_) | (refine Up.sc ?_ (by first | exact Nat.le_refl _ | (simp; done) | omega) _) | (refine Up.step (by assumption) ?_)))⟩, by simp [intOf]; omega⟩
      · obtain rfl : i = xs.length := by omega
        have HR := Lib.hid (linesB_all h200 he.out)
        go_wp2
        go_ret
        exact ⟨retb HR.out.symm, by (repeat (first | exact Up.rfl' _ | (refine Up.al _ ?_) | (refine Up.dr _ ?_) | (refine Up.dr1 ?_) | (refine Up.sc ?_ (by first | exact Nat.le_refl _ | (simp; done) | omega) _) | (refine Up.step (by assumption) ?_)))⟩
  · have HR := Lib.hid (linesB_long h200)
    go_enter Tryz.func45, Tryz.ntmps45
    go_wp2
    go_ret
    exact ⟨retb HR.out.symm, by (repeat (first | exact Up.rfl' _ | (refine Up.al _ ?_) | (refine Up.dr _ ?_) | (refine Up.dr1 ?_) | (refine Up.sc ?_ (by first | exact Nat.le_refl _ | (simp; done) | omega) _) | (refine Up.step (by assumption) ?_)))⟩
end Go.Proofs.YtjkpcfbmmkmoaaaGreat

/- Percents and lines: the contracts at a world as_ contracts in plain values. -/
namespace Go.Proofs.YtjkpcfbmmkmoaaaGreat
set_option maxRecDepth 10000
open Go.RowKit
set_option linter.unusedVariables false
set_option linter.unusedSimpArgs false
def lnOf (x : YLine) : Ln := ⟨x.order, x.kind, x.amount, x.at_⟩
instance : FlatAs cLine lnOf := ⟨fun x => rfl, fun x j p h => by
  match j, h with
  | 0, h => obtain rfl : vi x.order = p := by simpa using h
            exact ⟨_, rfl, rfl⟩
  | 1, h => obtain rfl : vi x.kind = p := by simpa using h
            exact ⟨_, rfl, rfl⟩
  | 2, h => obtain rfl : vi x.amount = p := by simpa using h
            exact ⟨_, rfl, rfl⟩
  | 3, h => obtain rfl : vi x.at_ = p := by simpa using h
            exact ⟨_, rfl, rfl⟩
  | j + 4, h => simp at h⟩
def m_impl_ArePercents (l : List Int) : Option Bool := if l.length ≤ 2000000 then some (pctsB l) else none
theorem ok_impl_ArePercents (l : List Int) {r : Bool} (H : m_impl_ArePercents l = some r) : CallM Tryz.prog 54 [.sl (l.map cInt)] [] (vb r) [] := by
  unfold m_impl_ArePercents at H
  split at H
  case isFalse => cases H
  rename_i hn
  obtain rfl := Option.some.inj H
  refine callM_v rfl fun S β w vs hsz hl ha => ?_
  obtain ⟨x, hx, hr⟩ := ha 0 _ rfl
  obtain rfl := arr1 hl hx
  obtain ⟨A, c, rfl, hcap, _, hrd⟩ := rd_flat (id : Int → Int) hsz (rep_sl hr)
  rw [List.map_id] at hrd
  exact arePercents_impl A c l w hrd hn
instance (l : List Int) : CT Tryz.prog (m_impl_ArePercents l) := ⟨54, [.sl (l.map cInt)], [], fun r => vb r, fun r => [], ok_impl_ArePercents l⟩
def m_impl_AreLines (l : List YLine) : Option Bool := if l.length ≤ 2000000 then some (linesB (l.map lnOf)) else none
theorem ok_impl_AreLines (l : List YLine) {r : Bool} (H : m_impl_AreLines l = some r) : CallM Tryz.prog 55 [.sl (l.map cLine)] [] (vb r) [] := by
  unfold m_impl_AreLines at H
  split at H
  case isFalse => cases H
  rename_i hn
  obtain rfl := Option.some.inj H
  refine callM_v rfl fun S β w vs hsz hl ha => ?_
  obtain ⟨x, hx, hr⟩ := ha 0 _ rfl
  obtain rfl := arr1 hl hx
  obtain ⟨A, c, rfl, hcap, _, hrd⟩ := rd_flat lnOf hsz (rep_sl hr)
  have := areLines_impl A (l.map lnOf) c w hrd (by simpa using hcap) (by simpa using hn)
  rwa [List.length_map] at this
instance (l : List YLine) : CT Tryz.prog (m_impl_AreLines l) := ⟨55, [.sl (l.map cLine)], [], fun r => vb r, fun r => [], ok_impl_AreLines l⟩
def m_impl_SumOf (l : List YLine) (order kind : Int) : Option Int := if l.length ≤ 2000000 then some (sumLn (l.map lnOf) order kind) else none
theorem ok_impl_SumOf (l : List YLine) (order kind : Int) {r : Int} (H : m_impl_SumOf l order kind = some r) : CallM Tryz.prog 57 [.sl (l.map cLine), vi order, vi kind] [] (vi r) [] := by
  unfold m_impl_SumOf at H
  split at H
  case isFalse => cases H
  rename_i hn
  obtain rfl := Option.some.inj H
  refine callM_v rfl fun S β w vs hsz hl ha => ?_
  obtain ⟨x, hx, hr⟩ := ha 0 _ rfl
  obtain ⟨x1, hx1, hr1⟩ := ha 1 _ rfl
  obtain ⟨x2, hx2, hr2⟩ := ha 2 _ rfl
  obtain rfl := arr3 hl hx hx1 hx2
  obtain rfl := rep_v1 hr1
  obtain rfl := rep_v1 hr2
  obtain ⟨A, c, rfl, hcap, _, hrd⟩ := rd_flat lnOf hsz (rep_sl hr)
  have := sumOf_impl A (l.map lnOf) c order kind w hrd (by simpa using hn)
  rwa [List.length_map] at this
instance (l : List YLine) (order kind : Int) : CT Tryz.prog (m_impl_SumOf l order kind) := ⟨57, [.sl (l.map cLine), vi order, vi kind], [], fun r => vi r, fun r => [], ok_impl_SumOf l order kind⟩
def m_spec_ArePercents (l : List Int) : Option Bool := if l.length ≤ 2000000 then some (pctsB l) else none
theorem ok_spec_ArePercents (l : List Int) {r : Bool} (H : m_spec_ArePercents l = some r) : CallM Tryz.prog 44 [.sl (l.map cInt)] [] (vb r) [] := by
  unfold m_spec_ArePercents at H
  split at H
  case isFalse => cases H
  rename_i hn
  obtain rfl := Option.some.inj H
  refine callM_v rfl fun S β w vs hsz hl ha => ?_
  obtain ⟨x, hx, hr⟩ := ha 0 _ rfl
  obtain rfl := arr1 hl hx
  obtain ⟨A, c, rfl, hcap, _, hrd⟩ := rd_flat (id : Int → Int) hsz (rep_sl hr)
  rw [List.map_id] at hrd
  exact arePercents_spec A c l w hrd hn
instance (l : List Int) : CT Tryz.prog (m_spec_ArePercents l) := ⟨44, [.sl (l.map cInt)], [], fun r => vb r, fun r => [], ok_spec_ArePercents l⟩
def m_spec_AreLines (l : List YLine) : Option Bool := if l.length ≤ 2000000 then some (linesB (l.map lnOf)) else none
theorem ok_spec_AreLines (l : List YLine) {r : Bool} (H : m_spec_AreLines l = some r) : CallM Tryz.prog 45 [.sl (l.map cLine)] [] (vb r) [] := by
  unfold m_spec_AreLines at H
  split at H
  case isFalse => cases H
  rename_i hn
  obtain rfl := Option.some.inj H
  refine callM_v rfl fun S β w vs hsz hl ha => ?_
  obtain ⟨x, hx, hr⟩ := ha 0 _ rfl
  obtain rfl := arr1 hl hx
  obtain ⟨A, c, rfl, hcap, _, hrd⟩ := rd_flat lnOf hsz (rep_sl hr)
  have := areLines_spec A (l.map lnOf) c w hrd (by simpa using hcap) (by simpa using hn)
  rwa [List.length_map] at this
instance (l : List YLine) : CT Tryz.prog (m_spec_AreLines l) := ⟨45, [.sl (l.map cLine)], [], fun r => vb r, fun r => [], ok_spec_AreLines l⟩
def m_spec_SumOf (l : List YLine) (order kind : Int) : Option Int := if l.length ≤ 2000000 then some (sumLn (l.map lnOf) order kind) else none
theorem ok_spec_SumOf (l : List YLine) (order kind : Int) {r : Int} (H : m_spec_SumOf l order kind = some r) : CallM Tryz.prog 124 [.sl (l.map cLine), vi order, vi kind] [] (vi r) [] := by
  unfold m_spec_SumOf at H
  split at H
  case isFalse => cases H
  rename_i hn
  obtain rfl := Option.some.inj H
  refine callM_v rfl fun S β w vs hsz hl ha => ?_
  obtain ⟨x, hx, hr⟩ := ha 0 _ rfl
  obtain ⟨x1, hx1, hr1⟩ := ha 1 _ rfl
  obtain ⟨x2, hx2, hr2⟩ := ha 2 _ rfl
  obtain rfl := arr3 hl hx hx1 hx2
  obtain rfl := rep_v1 hr1
  obtain rfl := rep_v1 hr2
  obtain ⟨A, c, rfl, hcap, _, hrd⟩ := rd_flat lnOf hsz (rep_sl hr)
  have := sumOf_spec A (l.map lnOf) c order kind w hrd (by simpa using hn)
  rwa [List.length_map] at this
instance (l : List YLine) (order kind : Int) : CT Tryz.prog (m_spec_SumOf l order kind) := ⟨124, [.sl (l.map cLine), vi order, vi kind], [], fun r => vi r, fun r => [], ok_spec_SumOf l order kind⟩
end Go.Proofs.YtjkpcfbmmkmoaaaGreat

/- The mirror of impl_same_int_, and that the code does just that (printed by a program of my own). -/
namespace Go.Proofs.YtjkpcfbmmkmoaaaGreat
set_option maxRecDepth 10000
open Go.RowKit
set_option linter.unusedVariables false
set_option maxHeartbeats 16000000
def m_impl_same_int__b0 (a : List Int) (b : List Int) (s0 : Int) : Option (Int ⊕ (Unit ⊕ Bool)) :=
 cond (decide (s0 < (a.length : Int)))
 ((getI a s0).bind fun y1 =>
 (getI b s0).bind fun y2 =>
 cond (!decide (y1 = y2))
 (some (.inr (.inr false)))
 (some (.inl (w64 (s0 + 1)))))
 (some (.inr (.inl ())))
instance (a : List Int) (b : List Int) : LoopE (m_impl_same_int__b0 a b) := ⟨fun s0 => [.sl (a.map cInt), .sl (b.map cInt), .un, .un, .un, .un, .un, .un, .un, .un, .un, .un, vi (a.length : Int), vi s0, .un, .un, .un, .un, .un, .un, .un, .un, .un, .un, .un, .un], fun s0 => []⟩
def m_impl_same_int_ (a : List Int) (b : List Int) : Option Bool :=
 cond (!decide ((a.length : Int) = (b.length : Int)))
 (some false)
 ((iterF (m_impl_same_int__b0 a b) NN 0).bind (selim (fun o0 =>
 some true) (fun r => some r)))
theorem ok_impl_same_int_ (a : List Int) (b : List Int) {r : Bool} (H : m_impl_same_int_ a b = some r) : CallM Tryz.prog 221 [.sl (a.map cInt), .sl (b.map cInt)] [] (vb r) [] := by
  replace H := H0 H
  unfold m_impl_same_int_ at H
  refine callM_of Tryz.func221 rfl Tryz.ntmps221 Tryz.results221 fun Q hQ hQn => ?_
  exact wk2
instance (a : List Int) (b : List Int) : CT Tryz.prog (m_impl_same_int_ a b) := ⟨221, [.sl (a.map cInt), .sl (b.map cInt)], [], fun r => vb r, fun r => [], ok_impl_same_int_ a b⟩
end Go.Proofs.YtjkpcfbmmkmoaaaGreat

/- The mirror of impl_sameParcels, and that the code does just that (printed by a program of my own). -/
namespace Go.Proofs.YtjkpcfbmmkmoaaaGreat
set_option maxRecDepth 10000
open Go.RowKit
set_option linter.unusedVariables false
set_option maxHeartbeats 16000000
def m_impl_sameParcels (a : YParcel) (b : YParcel) : Option Bool :=
 cond (decide (a.label = b.label))
 (cond (decide (a.from_ = b.from_))
 (cond (decide (a.weight = b.weight))
 ((m_impl_same_int_ a.sides b.sides).bind fun y1 =>
 cond y1
 (some (decide (a.value = b.value)))
 (some false))
 (some false))
 (some false))
 (some false)
theorem ok_impl_sameParcels (a : YParcel) (b : YParcel) {r : Bool} (H : m_impl_sameParcels a b = some r) : CallM Tryz.prog 210 [.ag (cParcel a), .ag (cParcel b)] [] (vb r) [] := by
  replace H := H0 H
  unfold m_impl_sameParcels at H
  refine callM_of Tryz.func210 rfl Tryz.ntmps210 Tryz.results210 fun Q hQ hQn => ?_
  exact wk2
instance (a : YParcel) (b : YParcel) : CT Tryz.prog (m_impl_sameParcels a b) := ⟨210, [.ag (cParcel a), .ag (cParcel b)], [], fun r => vb r, fun r => [], ok_impl_sameParcels a b⟩
end Go.Proofs.YtjkpcfbmmkmoaaaGreat

/- The mirror of impl_sameActs, and that the code does just that (printed by a program of my own). -/
namespace Go.Proofs.YtjkpcfbmmkmoaaaGreat
set_option maxRecDepth 10000
open Go.RowKit
set_option linter.unusedVariables false
set_option maxHeartbeats 16000000
def m_impl_sameActs (a : YAct) (b : YAct) : Option Bool :=
 cond (decide (a.kind = b.kind))
 ((m_impl_sameParcels a.parcel b.parcel).bind fun y1 =>
 cond y1
 (cond (decide (a.order = b.order))
 (cond (decide (a.amount = b.amount))
 (cond (decide (a.until_ = b.until_))
 (some (decide (a.trip = b.trip)))
 (some false))
 (some false))
 (some false))
 (some false))
 (some false)
theorem ok_impl_sameActs (a : YAct) (b : YAct) {r : Bool} (H : m_impl_sameActs a b = some r) : CallM Tryz.prog 144 [.ag (cAct a), .ag (cAct b)] [] (vb r) [] := by
  replace H := H0 H
  unfold m_impl_sameActs at H
  refine callM_of Tryz.func144 rfl Tryz.ntmps144 Tryz.results144 fun Q hQ hQn => ?_
  exact wk2
instance (a : YAct) (b : YAct) : CT Tryz.prog (m_impl_sameActs a b) := ⟨144, [.ag (cAct a), .ag (cAct b)], [], fun r => vb r, fun r => [], ok_impl_sameActs a b⟩
end Go.Proofs.YtjkpcfbmmkmoaaaGreat

/- The mirror of impl_IsLabel, and that the code does just that (printed by a program of my own). -/
namespace Go.Proofs.YtjkpcfbmmkmoaaaGreat
set_option maxRecDepth 10000
open Go.RowKit
set_option linter.unusedVariables false
set_option maxHeartbeats 16000000
def m_impl_IsLabel (l : YLabel) : Option Bool :=
 (m_impl_within l.service 1 3).bind fun y1 =>
 cond y1
 ((m_impl_within l.serial 0 999999999).bind fun y2 =>
 cond y2
 ((m_impl_IsPlace l.to_).bind fun y3 =>
 some y3)
 (some false))
 (some false)
theorem ok_impl_IsLabel (l : YLabel) {r : Bool} (H : m_impl_IsLabel l = some r) : CallM Tryz.prog 206 [.ag (cLabel l)] [] (vb r) [] := by
  replace H := H0 H
  unfold m_impl_IsLabel at H
  refine callM_of Tryz.func206 rfl Tryz.ntmps206 Tryz.results206 fun Q hQ hQn => ?_
  exact wk2
instance (l : YLabel) : CT Tryz.prog (m_impl_IsLabel l) := ⟨206, [.ag (cLabel l)], [], fun r => vb r, fun r => [], ok_impl_IsLabel l⟩
end Go.Proofs.YtjkpcfbmmkmoaaaGreat

/- The mirror of impl_threeSides, and that the code does just that (printed by a program of my own). -/
namespace Go.Proofs.YtjkpcfbmmkmoaaaGreat
set_option maxRecDepth 10000
open Go.RowKit
set_option linter.unusedVariables false
set_option maxHeartbeats 16000000
def m_impl_threeSides_b0 (l : List Int) (s0 : Int) : Option (Int ⊕ (Unit ⊕ Bool)) :=
 cond (decide (s0 < (l.length : Int)))
 ((getI l s0).bind fun y1 =>
 (m_impl_within y1 1 2000).bind fun y2 =>
 cond (!y2)
 (some (.inr (.inr false)))
 (some (.inl (w64 (s0 + 1)))))
 (some (.inr (.inl ())))
instance (l : List Int) : LoopE (m_impl_threeSides_b0 l) := ⟨fun s0 => [.sl (l.map cInt), .un, .un, .un, .un, .sl (l.map cInt), vi (l.length : Int), vi s0, .un, .un, .un, .un, .un, .un, .un, .un, .un, .un], fun s0 => []⟩
def m_impl_threeSides (l : List Int) : Option Bool :=
 (iterF (m_impl_threeSides_b0 l) NN 0).bind (selim (fun o0 =>
 some (decide ((l.length : Int) = 3))) (fun r => some r))
theorem ok_impl_threeSides (l : List Int) {r : Bool} (H : m_impl_threeSides l = some r) : CallM Tryz.prog 207 [.sl (l.map cInt)] [] (vb r) [] := by
  replace H := H0 H
  unfold m_impl_threeSides at H
  refine callM_of Tryz.func207 rfl Tryz.ntmps207 Tryz.results207 fun Q hQ hQn => ?_
  exact wk2
instance (l : List Int) : CT Tryz.prog (m_impl_threeSides l) := ⟨207, [.sl (l.map cInt)], [], fun r => vb r, fun r => [], ok_impl_threeSides l⟩
end Go.Proofs.YtjkpcfbmmkmoaaaGreat

/- The mirror of impl_GirthOf, and that the code does just that (printed by a program of my own). -/
namespace Go.Proofs.YtjkpcfbmmkmoaaaGreat
set_option maxRecDepth 10000
open Go.RowKit
set_option linter.unusedVariables false
set_option maxHeartbeats 16000000
def m_impl_GirthOf (sides : List Int) : Option Int :=
 (m_impl_threeSides sides).bind fun y1 =>
 cond (!y1)
 (some 0)
 ((m_impl_SortSides sides).bind fun y2 =>
 (getI y2 0).bind fun y3 =>
 (getI y2 1).bind fun y4 =>
 (getI y2 2).bind fun y5 =>
 some (w64 ((w64 (y3 + (w64 (2 * y4)))) + (w64 (2 * y5)))))
theorem ok_impl_GirthOf (sides : List Int) {r : Int} (H : m_impl_GirthOf sides = some r) : CallM Tryz.prog 208 [.sl (sides.map cInt)] [] (vi r) [] := by
  replace H := H0 H
  unfold m_impl_GirthOf at H
  refine callM_of Tryz.func208 rfl Tryz.ntmps208 Tryz.results208 fun Q hQ hQn => ?_
  exact wk2
instance (sides : List Int) : CT Tryz.prog (m_impl_GirthOf sides) := ⟨208, [.sl (sides.map cInt)], [], fun r => vi r, fun r => [], ok_impl_GirthOf sides⟩
end Go.Proofs.YtjkpcfbmmkmoaaaGreat

/- The mirror of impl_IsParcel, and that the code does just that (printed by a program of my own). -/
namespace Go.Proofs.YtjkpcfbmmkmoaaaGreat
set_option maxRecDepth 10000
open Go.RowKit
set_option linter.unusedVariables false
set_option maxHeartbeats 16000000
def m_impl_IsParcel (p : YParcel) : Option Bool :=
 (m_impl_IsLabel p.label).bind fun y1 =>
 cond y1
 ((m_impl_IsPlace p.from_).bind fun y2 =>
 cond y2
 (cond (!decide (p.from_ = p.label.to_))
 ((m_impl_within p.weight 1 30000).bind fun y3 =>
 cond y3
 ((m_impl_threeSides p.sides).bind fun y4 =>
 cond y4
 ((m_impl_GirthOf p.sides).bind fun y5 =>
 cond (decide (y5 ≤ 3600))
 ((m_impl_within p.value 0 500000).bind fun y6 =>
 some y6)
 (some false))
 (some false))
 (some false))
 (some false))
 (some false))
 (some false)
theorem ok_impl_IsParcel (p : YParcel) {r : Bool} (H : m_impl_IsParcel p = some r) : CallM Tryz.prog 141 [.ag (cParcel p)] [] (vb r) [] := by
  replace H := H0 H
  unfold m_impl_IsParcel at H
  refine callM_of Tryz.func141 rfl Tryz.ntmps141 Tryz.results141 fun Q hQ hQn => ?_
  exact wk2
instance (p : YParcel) : CT Tryz.prog (m_impl_IsParcel p) := ⟨141, [.ag (cParcel p)], [], fun r => vb r, fun r => [], ok_impl_IsParcel p⟩
end Go.Proofs.YtjkpcfbmmkmoaaaGreat
