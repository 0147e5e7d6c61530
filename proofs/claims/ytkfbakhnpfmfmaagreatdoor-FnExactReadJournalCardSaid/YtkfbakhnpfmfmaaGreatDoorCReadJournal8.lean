/- A part of the proof of the statement in the last file of this claim: texts on the language of the program and on its functions. No condition. -/
import Derived.Test.YtkfbakhnpfmfmaaGreatDoorCReadJournal6
import Derived.Test.YtkfbakhnpfmfmaaGreatDoorCReadJournal5
import Derived.Test.YtkfbakhnpfmfmaaGreatDoorCReadJournal7
set_option linter.unusedVariables false
set_option linter.unusedSimpArgs false
set_option linter.unusedSectionVars false
namespace Go.Proofs.YtkfbakhnpfmfmaaGreatDoor
set_option maxRecDepth 10000
open Go.RowKit
set_option linter.unusedVariables false
set_option linter.unusedSimpArgs false
theorem cutB_eK {m m' : Mem} {ρ : Nat → Option Nat} {α : Type} {f : α → List PV} {t t' : TypeId} {k : Nat} : cutF ρ m m' ⟨TK.of t, k, []⟩ ⟨⟨t, some t'⟩, k, ([] : List α).map f⟩ := ⟨⟨rfl, rfl, .inr trivial⟩, fun _ _ _ _ i ds j l hi => by simp at hi⟩
theorem yd {p : Prop} (h : p := by (try simp only [U_s, U_z]); (with_reducible refine cutS ?_); (first | (with_reducible apply cutL_0) | (with_reducible apply cutL_1) | (with_reducible apply cutL_2) | (with_reducible apply cutL_3) | (with_reducible apply cutL_4) | (with_reducible apply cutL_5) | (with_reducible apply cutL_6) | (with_reducible apply cutL_7) | (with_reducible apply cutL_8) | (with_reducible apply cutL_9) | (with_reducible apply cutL_10) | (with_reducible apply cutL_11) | (with_reducible apply cutL_12)); (repeat' (first       | (with_reducible exact lowB_0) | (with_reducible refine lowB_c ?_) | (with_reducible refine lowB_d ?_) | (with_reducible refine cutT_un ?_)       | (with_reducible refine cutT_c ?_ ?_)       | (with_reducible exact cutT_nil)       | (with_reducible exact cutV_c rfl)       | exact cutV_c rfl       | (with_reducible exact cutL_nil)       | (with_reducible refine cutL_c ?_ ?_)       | exact .c _ rfl       | exact .un _       | exact cutC_ms rfl rfl       | exact cutC_be rfl rfl       | exact cutC_nilsl0 | exact cutC_nilsl       | exact cutC_nilms rfl rfl       | (refine cutC_fms rfl ?_) | (refine cutC_fmso rfl rfl ?_) | (refine cutC_fss rfl rfl rfl ?_)       | (refine cutC_fbe rfl rfl ?_)       | (with_reducible refine cutC_fnL ?_) | (with_reducible refine cutV_ag ?_)       | (with_reducible refine cutV_tu ?_)       | (with_reducible exact cutAs_nil)       | (with_reducible refine cutAs_c ?_ ?_)       | (with_reducible refine cutA_ag ?_)       | (with_reducible refine cutA_k ?_)       | (with_reducible refine cutV_k ?_)       | (with_reducible exact rowsOk_nil)       | (refine rowsOk_live rfl ?_ ?_)       | (refine rowsOk_new0 rfl ?_) | (refine rowsOk_new rfl ?_)       | (with_reducible refine rowsOk_dead ?_)       | (with_reducible refine cutB_one ?_)       | (with_reducible exact cutB_nil) | exact cutB_eK       | (with_reducible refine cutB_two ?_)       | (with_reducible exact cutE_n)       | (with_reducible refine cutE_c ?_ ?_)       | (with_reducible exact cutB_same)       | (with_reducible refine cutB_set ?_)       | exact cutB_same       | (refine cutB_set ?_)       | (refine cutB_rep ?_)       | (refine cutB_snoc ?_)       | (refine cutB_setN rfl ?_)       | (refine cutB_snocK rfl rfl rfl rfl ?_)       | (refine cutB_setA rfl rfl rfl rfl ?_)       | (simp only [cInt, cStr, cBool, cB8, cl1Cur, cLabel, cParcel, cZone, cRate, cLeg, cNetwork, cTrip, cBooking, cScan, cOrder, cWorld, cLine, cAct, cOffice, cItem, cChute, cInlet, cCentre, cThing, cBelief])       | (with_unfolding_all rfl))); (all_goals first | (exact dropped_of rfl) | exact none); (first | done | fail)) : p := h
theorem wk6 {p : Prop} (h : p := by
  (simp only [List.length_cons, List.length_nil, Nat.reduceAdd, Nat.reduceSub, List.replicate_succ, List.replicate_zero, List.cons_append, List.nil_append, go_sem]);
  repeat' (first
    | ((with_reducible refine pDyn_fn ?_ ?_ ?_); (focus (simp [isR])); (focus (simp only [go_sem])); (simp only [List.cons_append, List.nil_append]))
    | ((with_reducible refine pwp_drwL H rfl (by kernel_rfl) ?_); (clear H; intro H; simp only [go_sem, Nat.reduceAdd, Nat.reduceSub, Nat.reduceMul, Nat.reduceLT, Nat.reduceLeDiff, Nat.reduceEqDiff, if_true, eq_self]))
    | ((with_reducible refine rhoSD (rhoH H) ?_); (refine call_ioD H rfl rfl ?_ ?_ ?_ ?_ ?_ ?_ ?_ ?_); (focus (first | rfl | (simp only [CT.args, List.map_cons, List.map_nil, renA, renC, ren1, sig_z, sig_s, sig_n]; done))); (focus (simp [CT.args, CT.m0, goodA, goodC, lowA, lowC, low1, isR])); (focus (first | exact List.nodup_nil | decide)); (focus ((simp only [CT.m0]); (repeat' (first | exact inRows_nil | (refine inRows_map (by rfl) ?_) | (refine inRows_one (by rfl) (by rfl) (by simp [goodC, lowC, low1, isR]) ?_))))); (focus (intro y_; simp [CT.mem, CT.m0])); (focus (intro y_; (simp only [CT.mem]); (repeat (first | exact hm_nil | exact hm_one | exact hm_oneT | (refine hm_c hm_one ?_) | (refine hm_c (goodD_cells (by simp [goodC, isR])) ?_) | exact goodD_cells (by simp [goodC, isR]) | (refine hm_none ?_))))); (focus (intro y_; (simp [CT.res, goodV, goodA, goodC, isR]))); (clear H; intro y_ hy H; simp only [CT.res, CT.mem, putIn, List.drop_succ_cons, List.drop_zero, Option.map_none, go_sem, Nat.reduceAdd, Nat.reduceSub, Nat.reduceMul, Nat.reduceLT, Nat.reduceLeDiff, Nat.reduceEqDiff, if_true, eq_self]))
    | ((with_reducible refine jnS (jnH H) ?_); (first | ((refine pwp_jn2 H ?_ ?_ (fun K_ hL H => ?_) (fun o_ H => ?_)); (focus (decide +kernel)); (focus (decide +kernel))) | ((refine pwp_jn H ?_ ?_ (fun K_ hL H => ?_) (fun o_ H => ?_)); (focus (decide +kernel)); (focus (decide +kernel)))))
    | ((with_reducible refine rhoS (rhoH H) ?_); (refine call_io H rfl rfl rfl ?_ ?_ ?_ ?_ ?_ ?_ ?_ ?_); (focus (first | rfl | (simp only [CT.args, List.map_cons, List.map_nil, renA, renC, ren1, sig_z, sig_s, sig_n]; done))); (focus (simp [CT.args, CT.m0, goodA, goodC, lowA, lowC, low1, isR])); (focus (first | exact List.nodup_nil | decide)); (focus ((simp only [CT.m0]); (repeat' (first | exact inRows_nil | (refine inRows_map (by rfl) ?_) | (refine inRows_one (by rfl) (by rfl) (by simp [goodC, lowC, low1, isR]) ?_))))); (focus (intro y_; simp [CT.mem, CT.m0])); (focus (intro y_; (simp only [CT.mem]); (repeat (first | exact hm_nil | exact hm_one | exact hm_oneT | (refine hm_c hm_one ?_) | (refine hm_c (goodD_cells (by simp [goodC, isR])) ?_) | exact goodD_cells (by simp [goodC, isR]) | (refine hm_none ?_))))); (focus (intro y_; (simp [CT.res, goodV, goodA, goodC, isR]))); (clear H; intro y_ hy H; simp only [CT.res, CT.mem, putIn, List.drop_succ_cons, List.drop_zero, Option.map_none, go_sem, Nat.reduceAdd, Nat.reduceSub, Nat.reduceMul, Nat.reduceLT, Nat.reduceLeDiff, Nat.reduceEqDiff, if_true, eq_self]))
    | ((with_reducible refine pwp_frzL H ?_ ?_); (focus (exact yd)); (clear H; intro z_ H))
    | ((with_reducible refine pwp_frz H ?_ ?_); (focus (exact yd)); (clear H; intro H))
    | ((with_reducible refine pwp_seq ?_); intro K_ hK)
    | ((with_reducible refine pwp_block ?_))
    | ((with_reducible refine pwp_region ?_); simp only [go_sem, Nat.reduceAdd, Nat.reduceSub, Nat.reduceMul, Nat.reduceLT, Nat.reduceLeDiff, Nat.reduceEqDiff, if_true, eq_self])
    | ((with_reducible refine pwp_skip ?_); (try simp only [thenP_normal, blockP_normal]))
    | ((with_reducible refine pwp_exit ?_); (simp only [thenP_exit, blockP_exit, thenP_normal, blockP_normal, if_true, if_false, eq_self, Nat.reduceEqDiff, Nat.one_ne_zero, Nat.zero_ne_one]); (try simp only [bexR, bsr, bsl] at H))
    | ((with_reducible refine pwp_ret ?_); (try simp only [thenP_ret, blockP_ret]))
    | ((with_reducible refine hQ _ _ ?_); (try simp only [bexR, bsr, bsl] at H); replace H := Hret H; subst H; simp only [Fin, resP, oneP, go_sem, Nat.reduceAdd, Nat.reduceSub, Nat.reduceMul, Nat.reduceLT, Nat.reduceLeDiff, Nat.reduceEqDiff, if_true, eq_self]; exact yd)
    | ((with_reducible refine hQn _ _ ?_); (try simp only [bexR, bsr, bsl] at H); replace H := Hret H; subst H; simp only [Fin, resP, oneP, go_sem, Nat.reduceAdd, Nat.reduceSub, Nat.reduceMul, Nat.reduceLT, Nat.reduceLeDiff, Nat.reduceEqDiff, if_true, eq_self]; exact yd)
    | ((with_reducible refine gateS ?_); (refine gate2_intro (fun hg => Hc1k H hg ?_) (fun hg => Hc2k H hg ?_)) <;> (clear H; intro H; simp only [go_sem, Nat.reduceAdd, Nat.reduceSub, Nat.reduceMul, Nat.reduceLT, Nat.reduceLeDiff, Nat.reduceEqDiff, if_true, eq_self]))
    | ((with_reducible refine pwp_condE ?_); simp only [evP_tmp, getD_z, getD_s, evP_bool]; (first | (with_reducible refine condP_tt ?_) | (with_reducible refine condP_ff ?_) | ((refine condP_intro (fun hg => Hc1k H hg ?_) (fun hg => Hc2k H hg ?_)) <;> (clear H; intro H))))
    | ((with_reducible refine idxS ?_); replace H := Hcall H; obtain ⟨y_, hy, H⟩ := H; (with_reducible apply idx_sl hy); (focus (first | (simp only [go_sem]; done) | (simp only [go_sem]; decide))); (focus (first | rfl | (simp only [go_sem]; rfl))); simp only [go_sem, Nat.reduceAdd, Nat.reduceSub, Nat.reduceMul, Nat.reduceLT, Nat.reduceLeDiff, Nat.reduceEqDiff, if_true, eq_self])
    | ((with_reducible refine idxM ?_); replace H := Hcall H; obtain ⟨y_, hy, H⟩ := H; (first | (refine idx_msb hy (by rfl) (by first | (simp only [go_sem]; done) | (simp only [go_sem]; decide)) (by first | rfl | (simp only [go_sem]; rfl)) ?_) | (refine idx_msov hy (by rfl) (by first | (simp only [go_sem]; done) | (simp only [go_sem]; decide)) (by first | rfl | (simp only [go_sem]; rfl)) ?_)); simp only [go_sem, Nat.reduceAdd, Nat.reduceSub, Nat.reduceMul, Nat.reduceLT, Nat.reduceLeDiff, Nat.reduceEqDiff, if_true, eq_self])
    | ((with_reducible refine idxB ?_); replace H := Hcall H; obtain ⟨y_, hy, H⟩ := H; (with_reducible apply idx_str hy); (focus (simp only [go_sem])); simp only [go_sem, Nat.reduceAdd, Nat.reduceSub, Nat.reduceMul, Nat.reduceLT, Nat.reduceLeDiff, Nat.reduceEqDiff, if_true, eq_self])
    | ((with_reducible refine callS ?_); replace H := Hcall H; obtain ⟨y_, hy, H⟩ := H; (first | ((with_reducible apply call_deep); (focus (exact CT.ok hy)); (focus (simp [isCA, isC, isC1])); (focus (exact Nat.le_of_ble_eq_true rfl)); (focus (exact xf)); (focus (first | exact gV_ag rfl | exact gV_tu rfl | exact gV_agM rfl | exact gV_tuM rfl | exact (fun h => (by cases h)) | (simp [CT.res, goodV, goodA, goodC, isR]))); (simp only [CT.res, CT.mem, go_sem, Nat.reduceAdd, Nat.reduceSub, Nat.reduceMul, Nat.reduceLT, Nat.reduceLeDiff, Nat.reduceEqDiff, if_true, eq_self])) | ((with_reducible apply call_deep); (focus (exact xs)); (focus (simp [isCA, isC, isC1])); (focus (exact Nat.le_of_ble_eq_true rfl)); (focus (exact xf)); (focus (first | exact gV_ag rfl | exact gV_tu rfl | exact gV_agM rfl | exact gV_tuM rfl | exact (fun h => (by cases h)) | (simp [CT.res, goodV, goodA, goodC, isR]))); (simp only [CT.res, CT.mem, go_sem, Nat.reduceAdd, Nat.reduceSub, Nat.reduceMul, Nat.reduceLT, Nat.reduceLeDiff, Nat.reduceEqDiff, if_true, eq_self])) | ((with_reducible apply call_flat); (focus (first | (simp only [snapA, snapV, snapC, snapL, live_look, look_z, look_s, rowQ_map, drop_mp, take_mp, List.forall_mem_nil, true_and, and_true, if_true]; (first | exact CT.ok hy | (simp only [all_nil, all_cons, isC, isC1, true_and, and_true, if_true]; exact CT.ok hy))) | (simp only [snapA, snapV, snapC, snapL, live_look, look_z, look_s, rowQ_map, drop_mp, take_mp, List.forall_mem_nil, true_and, and_true, if_true]; (first | (exact xs) | (simp only [all_nil, all_cons, isC, isC1, true_and, and_true, if_true]; (exact xs)))) | (simp only [snapA, snapV, snapC, snapL, live_look, look_z, look_s, rowQ_map, drop_mp, take_mp, List.forall_mem_nil, true_and, and_true, if_true]; (exact xs)))); (focus (exact Nat.le_of_ble_eq_true rfl)); (focus (exact xf)); (focus (first | exact gV_agF rfl | exact (fun _ => rfl) | (simp [CT.res, goodV, goodA, goodC, isF]))); (simp only [CT.res, CT.mem, go_sem, Nat.reduceAdd, Nat.reduceSub, Nat.reduceMul, Nat.reduceLT, Nat.reduceLeDiff, Nat.reduceEqDiff, if_true, eq_self]))))
    | ((with_reducible refine slcS ?_); replace H := Hchk H; obtain ⟨hc, H⟩ := H; (first | ((with_reducible apply slice_sl hc); (focus rfl); (focus rfl); (focus (first | (simp only [go_sem]; done) | (simp only [go_sem]; decide))); (focus (first | rfl | (intro x_; rfl))); simp only [go_sem, Nat.reduceAdd, Nat.reduceSub, Nat.reduceMul, Nat.reduceLT, Nat.reduceLeDiff, Nat.reduceEqDiff, if_true, eq_self]) | ((refine slice_msb hc (by rfl) (by rfl) (by rfl) (by first | (simp only [go_sem]; done) | (simp only [go_sem]; decide)) (by first | rfl | (simp only [go_sem]; rfl)) ?_); simp only [go_sem, Nat.reduceAdd, Nat.reduceSub, Nat.reduceMul, Nat.reduceLT, Nat.reduceLeDiff, Nat.reduceEqDiff, if_true, eq_self]) | ((with_reducible apply slice_str hc); (focus rfl); (focus rfl); (focus (simp only [go_sem])); simp only [go_sem, Nat.reduceAdd, Nat.reduceSub, Nat.reduceMul, Nat.reduceLT, Nat.reduceLeDiff, Nat.reduceEqDiff, if_true, eq_self])))
    | ((with_reducible refine appS ?_); replace H := Hchk H; obtain ⟨hc, H⟩ := H; (first | (refine app_msb hc (by first | (simp only [go_sem]; done) | (simp only [go_sem]; rfl)) (by first | (simp only [go_sem]; done) | (simp only [go_sem]; rfl)) (by first | (simp only [go_sem]; done) | (simp only [go_sem]; rfl)) (by first | (simp only [go_sem]; done) | (simp only [go_sem]; rfl)) (by rfl) (by first | rfl | exact src_ss' (by rfl) (by rfl) (by rfl)) rfl rfl (by intro x_; rfl) rfl ?_) | (refine app_nlb hc (by first | (simp only [go_sem]; done) | (simp only [go_sem]; rfl)) (by first | (simp only [go_sem]; done) | (simp only [go_sem]; rfl)) (by first | (simp only [go_sem]; done) | (simp only [go_sem]; rfl)) (by first | (simp only [go_sem]; done) | (simp only [go_sem]; rfl)) (by first | rfl | exact src_ss' (by rfl) (by rfl) (by rfl)) rfl rfl (by intro x_; rfl) ?_) | (refine app_msK hc rfl (by first | (simp only [go_sem]; done) | (simp only [go_sem]; rfl)) (by first | (simp only [go_sem]; done) | (simp only [go_sem]; rfl)) (by first | (simp only [go_sem]; done) | (simp only [go_sem]; rfl)) (by first | (simp only [go_sem]; done) | (simp only [go_sem]; rfl)) (by rfl) (by rfl) (by rfl) (by rfl) rfl rfl (by rfl) ?_)); simp only [go_sem, Nat.reduceAdd, Nat.reduceSub, Nat.reduceMul, Nat.reduceLT, Nat.reduceLeDiff, Nat.reduceEqDiff, if_true, eq_self])
    | ((with_reducible refine mkS ?_); replace H := Hchk H; obtain ⟨hc, H⟩ := H; (refine make_b hc (by first | (simp only [go_sem]; done) | (simp only [go_sem]; rfl)) (by first | (simp only [go_sem]; done) | (simp only [go_sem]; rfl)) (by first | (simp only [go_sem]; done) | (simp only [go_sem]; rfl)) (by first | (simp only [go_sem]; done) | (simp only [go_sem]; rfl)) rfl rfl ?_); simp only [go_sem, Nat.reduceAdd, Nat.reduceSub, Nat.reduceMul, Nat.reduceLT, Nat.reduceLeDiff, Nat.reduceEqDiff, if_true, eq_self])
    | ((with_reducible refine optS ?_); (first | (with_reducible refine opt_if (by decide) ?_) | (replace H := Hchk H; obtain ⟨hc, H⟩ := H; (first | (refine opt_if hc ?_) | (refine opt_if (of_decide_eq_true hc) ?_) | (refine opt_if ⟨rfl, of_decide_eq_true hc⟩ ?_)))); simp only [go_sem, Nat.reduceAdd, Nat.reduceSub, Nat.reduceMul, Nat.reduceLT, Nat.reduceLeDiff, Nat.reduceEqDiff, if_true, eq_self])
    | ((with_reducible refine loopS ?_); (refine pwp_loopH (Hlp H) ?_ ?_); (focus (simp only [LoopE.T, LoopE.M, U_s, U_z]; exact yd)); (clear H; intro n_ s_ H K_ hL; replace H := Hrd H; simp only [LoopE.T, LoopE.M, U_s, U_z]))
    | ((with_reducible refine pwp_draw (by kernel_rfl) ?_); simp only [go_sem, Nat.reduceAdd, Nat.reduceSub, Nat.reduceMul, Nat.reduceLT, Nat.reduceLeDiff, Nat.reduceEqDiff, if_true, eq_self])
    | ((with_reducible refine endD_intro (by kernel_rfl) ?_); (try simp only [thenP_normal, blockP_normal]))
    | ((with_reducible refine hK _ _ ?_); clear hK)
    | (clear hK; (with_reducible refine hK _ _ ?_); clear hK)
    | (clear hK; clear hK; (with_reducible refine hK _ _ ?_); clear hK)
    | (clear hK; clear hK; clear hK; (with_reducible refine hK _ _ ?_); clear hK)
    | (clear hK; clear hK; clear hK; clear hK; (with_reducible refine hK _ _ ?_); clear hK)
    | (clear hK; clear hK; clear hK; clear hK; clear hK; (with_reducible refine hK _ _ ?_); clear hK)
    | ((with_reducible refine And.intro ?_ ?_); omega)
    | (simp only [nxt_app, nxd_app, nxe_app, atM_app]; simp only [go_sem, Nat.reduceAdd, Nat.reduceSub, Nat.reduceMul, Nat.reduceLT, Nat.reduceLeDiff, Nat.reduceEqDiff, if_true, eq_self])
    | ((first | simp only [lit3 hy, Option.map_some, List.drop_zero, go_sem] | simp only [lit3s hy, Option.map_some, List.drop_zero, go_sem] | simp only [idxmapN hy, idxmap hy, idxset hy, go_sem, Nat.reduceAdd, Nat.reduceSub, Nat.reduceMul, Nat.reduceLT, Nat.reduceLeDiff, Nat.reduceEqDiff, if_true, eq_self] | simp only [idxmap hy, idxset hy, go_sem, Nat.reduceAdd, Nat.reduceSub, Nat.reduceMul, Nat.reduceLT, Nat.reduceLeDiff, Nat.reduceEqDiff, if_true, eq_self]))
    | ((with_reducible replace H := HexL H); (with_reducible refine hL _ _ _ H ?_); (try simp only [LoopE.T, LoopE.M, U_s, U_z]); exact yd)
    | ((with_reducible replace H := HexL H); clear hL; (with_reducible refine hL _ _ _ H ?_); (try simp only [LoopE.T, LoopE.M, U_s, U_z]); exact yd)
    | ((with_reducible refine jnX H hL ?_); exact yd)
    | (with_reducible exact (Hnone H).elim)
    | ((with_reducible replace H := rgH H); obtain ⟨y_, hy, H⟩ := H; (first | simp only [lit3 hy, Option.map_some, List.drop_zero, go_sem] | simp only [lit3s hy, Option.map_some, List.drop_zero, go_sem] | simp only [idxmapN hy, idxmap hy, idxset hy, go_sem, Nat.reduceAdd, Nat.reduceSub, Nat.reduceMul, Nat.reduceLT, Nat.reduceLeDiff, Nat.reduceEqDiff, if_true, eq_self] | simp only [idxmap hy, idxset hy, go_sem, Nat.reduceAdd, Nat.reduceSub, Nat.reduceMul, Nat.reduceLT, Nat.reduceLeDiff, Nat.reduceEqDiff, if_true, eq_self])))) : p := h
set_option maxHeartbeats 16000000
def m_kimpl_ReadJournal_b0 (y1 : List ByteArray) (s0 : Int × (List YAct)) : Option ((Int × (List YAct)) ⊕ (List YAct)) :=
 cond (decide (s0.1 < ((Int.toNat (w64 ((y1.length : Int) - 1)) - Int.toNat 0 : Nat) : Int)))
 ((getI (subL y1 0 (w64 ((y1.length : Int) - 1))) s0.1).bind fun y2 =>
 (m_o_impl_ParseAct y2).bind fun y3 =>
 cond (!y3.2)
 (some (.inr s0.2))
 (cond (decide (150 ≤ (s0.2.length : Int)))
 (some (.inr s0.2))
 ((chk (appOk ((s0.2 : List YAct).length + ([y3.1] : List YAct).length) 136)).bind fun _ =>
 some (.inl ((w64 (s0.1 + 1)), ((s0.2 : List YAct) ++ [y3.1]))))))
 (some (.inr s0.2))
instance (y1 : List ByteArray) : LoopE (m_kimpl_ReadJournal_b0 y1) := ⟨fun s0 => (U 4 (.ms 0 :: (U 11 (.sl ((subL y1 0 (w64 ((y1.length : Int) - 1))).map cStr) :: vi ((Int.toNat (w64 ((y1.length : Int) - 1)) - Int.toNat 0 : Nat) : Int) :: vi s0.1 :: (U 21 []))))), fun s0 => [some ⟨⟨30, some 3⟩, 13, s0.2.map cAct⟩]⟩
def m_kimpl_ReadJournal (s : ByteArray) : Option (List YAct) :=
 (m_strings_Split s (⟨#[10]⟩)).bind fun y1 =>
 (chk (slOk 0 (w64 ((y1.length : Int) - 1)) y1.length)).bind fun _ =>
 (iterF (m_kimpl_ReadJournal_b0 y1) NN (0, ([] : List YAct))).bind (fun o0 =>
 some o0)
instance (s : ByteArray) : CT Tryz.prog (m_kimpl_ReadJournal s) := ⟨12, [vs s], [], fun r => .ms 0, fun r => [some ⟨⟨30, some 3⟩, 13, r.map cAct⟩], fun H => by replace H := H0 H; unfold m_kimpl_ReadJournal at H; exact callM_of Tryz.func12 rfl Tryz.ntmps12 Tryz.results12 fun Q hQ hQn => wk6⟩
set_option maxHeartbeats 4000000
def PA (l : List UInt8) : YAct × Bool := (m_o_spec_ParseAct (txt l)).getD (zA, false)
theorem pa_both {l : List UInt8} (h : l.length ≤ 1048576) : m_o_spec_ParseAct (txt l) = some (PA l) ∧ m_o_impl_ParseAct (txt l) = some (PA l) ∧ ((PA l) = (zA, false) ∨ ActF (PA l).1) := by
  obtain ⟨r, h1, h2, h3⟩ := parse_both (s := txt l) (by rw [txt_size]; exact h)
  unfold PA
  rw [h1]
  exact ⟨rfl, h2, h3⟩
def rd : List (List UInt8) → List YAct → List YAct
  | [], out => out
  | l :: ls, out => if 150 ≤ out.length then out else if (PA l).2 = true then rd ls (out ++ [(PA l).1]) else out
def RdOk (r : List YAct) : Prop := r.length ≤ 150 ∧ ∀ a ∈ r, ActF a
theorem rd_ok : ∀ (ls : List (List UInt8)) (out : List YAct), (∀ l ∈ ls, l.length ≤ 1048576) → RdOk out → RdOk (rd ls out)
  | [], out, _, h => h
  | l :: ls, out, hl, h => by
    unfold rd
    split
    · exact h
    · rename_i h1
      split
      · rename_i h2
        refine rd_ok ls _ (fun x hx => hl x (by simp [hx])) ⟨by simp; omega, fun a ha => ?_⟩
        rcases List.mem_append.1 ha with h3 | h3
        · exact h.2 a h3
        · rw [List.mem_singleton.1 h3]
          rcases (pa_both (hl l (by simp))).2.2 with h4 | h4
          · rw [h4] at h2; cases h2
          · exact h4
      · exact h
theorem kloop {M : List (List UInt8)} {y1 : List ByteArray} (hM : subL y1 0 (w64 ((y1.length : Int) - 1)) = M.map txt) (hn : ((Int.toNat (w64 ((y1.length : Int) - 1)) - Int.toNat 0 : Nat) : Int) = M.length) (hl : ∀ l ∈ M, l.length ≤ 1048576) (hML : M.length ≤ 2000000) :
    ∀ (rest : List (List UInt8)) (k : Nat) (out : List YAct) (N : Nat), M.drop k = rest → rest.length < N → out.length ≤ 150 → iterF (m_kimpl_ReadJournal_b0 y1) N ((k : Int), out) = some (rd rest out)
  | [], k, out, N, hr, hN, ho => by
    obtain ⟨N, rfl⟩ : ∃ K, N = K + 1 := ⟨N - 1, by omega⟩
    have hk : M.length ≤ k := List.drop_eq_nil_iff.1 hr
    rw [itr (o := out)]
    · rfl
    · unfold m_kimpl_ReadJournal_b0
      rw [hn]
      simp only [decide_eq_false (show ¬ (k : Int) < (M.length : Int) by omega), cond_false]
  | l :: rest, k, out, N, hr, hN, ho => by
    obtain ⟨N, rfl⟩ : ∃ K, N = K + 1 := ⟨N - 1, by omega⟩
    have hk : k < M.length := by
      rcases Nat.lt_or_ge k M.length with h | h
      · exact h
      · rw [List.drop_eq_nil_iff.2 h] at hr; cases hr
    have hx : M[k]? = some l := by rw [← List.head?_drop, hr]; rfl
    have hd : M.drop (k + 1) = rest := by rw [← List.tail_drop, hr]; rfl
    have hmem : l ∈ M := List.mem_of_getElem? hx
    obtain ⟨_, p2, _⟩ := pa_both (hl l hmem)
    have hg : getI (subL y1 0 (w64 ((y1.length : Int) - 1))) (k : Int) = some (txt l) := by rw [hM, getI_nat, List.getElem?_map, hx]; rfl
    have hw : w64 ((k : Int) + 1) = ((k + 1 : Nat) : Int) := by rw [w64_in (by omega)]; omega
    have hb : m_kimpl_ReadJournal_b0 y1 ((k : Int), out) = if (PA l).2 = true then (if 150 ≤ out.length then some (.inr out) else some (.inl (((k + 1 : Nat) : Int), out ++ [(PA l).1]))) else some (.inr out) := by
      unfold m_kimpl_ReadJournal_b0
      rw [hn]
      simp only [decide_eq_true (show (k : Int) < (M.length : Int) by omega), cond_true, hg, Option.bind_some, p2, hw]
      cases (PA l).2 with
      | false => rfl
      | true =>
        simp only [Bool.not_true, cond_false, if_true]
        by_cases h150 : 150 ≤ out.length
        · rw [if_pos h150, decide_eq_true (by omega), cond_true]
        · rw [if_neg h150, decide_eq_false (by omega), cond_false, show chk (appOk (out.length + ([(PA l).1] : List YAct).length) 136) = some () from chk_t (decide_eq_true ⟨by simp; omega, by simp; omega⟩), Option.bind_some]
    unfold rd
    by_cases h2 : (PA l).2 = true
    · by_cases h150 : 150 ≤ out.length
      · rw [itr (o := out) (by rw [hb, if_pos h2, if_pos h150]), if_pos h150]
      · rw [itl (s' := (((k + 1 : Nat) : Int), out ++ [(PA l).1])) (by rw [hb, if_pos h2, if_neg h150]), if_neg h150, if_pos h2]
        exact kloop hM hn hl hML rest (k + 1) _ N hd (by simp at hN; omega) (by simp; omega)
    · rw [itr (o := out) (by rw [hb, if_neg h2]), if_neg h2]
      split <;> rfl
theorem splitL_snoc (c : UInt8) (L : List UInt8) : splitL c L ≠ [] := fun h => by have := (splitL_len c L).2; rw [h] at this; simp at this
def linesOf (L : List UInt8) : List (List UInt8) := (splitL 10 L).dropLast
theorem linesOf_le (L : List UInt8) : ∀ l ∈ linesOf L, l.length ≤ L.length := fun l h => splitL_mem 10 L l (List.dropLast_subset _ h)
theorem kread {L : List UInt8} (hL : L.length ≤ 1048576) : m_kimpl_ReadJournal (txt L) = some (rd (linesOf L) []) := by
  have hs := split_at (c := 10) (L := L) (by omega)
  have hlen := splitL_len 10 L
  unfold m_kimpl_ReadJournal
  rw [show (⟨#[10]⟩ : ByteArray) = txt [10] from rfl, hs, Option.bind_some]
  have hw : w64 ((((splitL 10 L).map txt).length : Int) - 1) = ((linesOf L).length : Int) := by
    unfold linesOf
    rw [List.length_map, List.length_dropLast, w64_in (by omega)]; omega
  have hsl : chk (slOk 0 (w64 ((((splitL 10 L).map txt).length : Int) - 1)) (((splitL 10 L).map txt).length : Int)) = some () := by
    rw [hw]
    refine chk_t (decide_eq_true ⟨by omega, by omega, ?_⟩)
    unfold linesOf
    rw [List.length_dropLast, List.length_map]; omega
  have hsub : subL ((splitL 10 L).map txt) 0 (w64 ((((splitL 10 L).map txt).length : Int) - 1)) = (linesOf L).map txt := by
    rw [hw]
    unfold subL linesOf
    simp [List.dropLast_eq_take]
  have hk := kloop (M := linesOf L) (y1 := (splitL 10 L).map txt) hsub (by rw [hw]; simp) (fun l h => Nat.le_trans (linesOf_le L l h) hL) (by unfold linesOf; rw [List.length_dropLast]; omega) (linesOf L) 0 [] NN rfl (by unfold linesOf; rw [List.length_dropLast]; unfold NN; omega) (by simp)
  have hk' : iterF (m_kimpl_ReadJournal_b0 ((splitL 10 L).map txt)) NN (0, []) = some (rd (linesOf L) []) := hk
  rw [hsl, Option.bind_some, hk']; rfl
theorem sloop {L : List UInt8} (hL : L.length ≤ 1048576) : ∀ (rest pre cur : List UInt8) (out : List YAct) (N : Nat), L = pre ++ cur ++ rest → (10 : UInt8) ∉ cur → rest.length < N → out.length ≤ 150 →
    ∃ o, iterF (m_spec_ReadJournal_b0 (txt L)) N ((pre.length : Int), ((pre.length + cur.length : Nat) : Int), out) = some o ∧ (o = .inl (rd (splitL 10 (cur ++ rest)).dropLast out) ∨ o = .inr (rd (splitL 10 (cur ++ rest)).dropLast out))
  | [], pre, cur, out, N, h, hc, hN, ho => by
    obtain ⟨N, rfl⟩ : ∃ K, N = K + 1 := ⟨N - 1, by omega⟩
    have hs : (txt L).size = pre.length + cur.length := by rw [txt_size, h]; simp
    rw [List.append_nil, splitL_none hc]
    refine ⟨.inl out, ?_, .inl rfl⟩
    rw [itr (o := .inl out)]
    unfold m_spec_ReadJournal_b0
    simp only [decide_eq_false (show ¬ ((pre.length + cur.length : Nat) : Int) < ((txt L).size : Int) by omega), cond_false]
  | x :: rest, pre, cur, out, N, h, hc, hN, ho => by
    obtain ⟨N, rfl⟩ : ∃ K, N = K + 1 := ⟨N - 1, by omega⟩
    have hl : L.length = pre.length + cur.length + (rest.length + 1) := by rw [h]; simp; omega
    have hs : (txt L).size = L.length := txt_size L
    have hx : L[pre.length + cur.length]? = some x := by rw [h, ← List.length_append]; simp
    have d : decide (((pre.length + cur.length : Nat) : Int) < ((txt L).size : Int)) = true := decide_eq_true (by omega)
    have hg := getB_txt hx
    have hw : w64 (((pre.length + cur.length : Nat) : Int) + 1) = ((pre.length + cur.length + 1 : Nat) : Int) := by rw [w64_in (by omega)]; omega
    simp only [List.length_cons] at hN
    by_cases h150 : 150 ≤ out.length
    · have e : rd (splitL 10 (cur ++ x :: rest)).dropLast out = out := by
        cases (splitL 10 (cur ++ x :: rest)).dropLast with
        | nil => rfl
        | cons l ls => unfold rd; rw [if_pos h150]
      rw [e]
      refine ⟨.inl out, ?_, .inl rfl⟩
      rw [itr (o := .inl out)]
      unfold m_spec_ReadJournal_b0
      simp only [d, cond_true, decide_eq_false (show ¬ (out.length : Int) < 150 by omega), cond_false]
    · have d150 : decide ((out.length : Int) < 150) = true := decide_eq_true (by omega)
      by_cases hxc : x = 10
      · subst hxc
        obtain ⟨p1, _, _⟩ := pa_both (l := cur) (by omega)
        have hsub : subS (txt L) (pre.length : Int) ((pre.length + cur.length : Nat) : Int) = txt cur := by rw [h]; exact subS_at rfl rfl
        have hsl : chk (slOk (pre.length : Int) ((pre.length + cur.length : Nat) : Int) ((txt L).size : Int)) = some () := chk_t (decide_eq_true ⟨by omega, by omega, by omega⟩)
        have hap : chk (appOk (out.length + ([(PA cur).1] : List YAct).length) 136) = some () := chk_t (decide_eq_true ⟨by simp; omega, by simp; omega⟩)
        have hsp : (splitL 10 (cur ++ 10 :: rest)).dropLast = cur :: (splitL 10 rest).dropLast := by rw [splitL_app hc]; exact List.dropLast_cons_of_ne_nil (splitL_snoc _ _)
        rw [hsp]
        have e1 : decide (((10 : UInt8).toNat : Int) = 10) = true := rfl
        by_cases h2 : (PA cur).2 = true
        · have e : rd (cur :: (splitL 10 rest).dropLast) out = rd (splitL 10 rest).dropLast (out ++ [(PA cur).1]) := by
            conv => lhs; unfold rd
            rw [if_neg h150, if_pos h2]
          rw [e]
          obtain ⟨o, i1, i2⟩ := sloop hL rest (pre ++ cur ++ [10]) [] (out ++ [(PA cur).1]) N (by rw [h]; simp) (by simp) (by omega) (by simp; omega)
          refine ⟨o, ?_, i2⟩
          have e2 : (pre ++ cur ++ [(10 : UInt8)]).length = pre.length + cur.length + 1 := by simp; omega
          rw [e2, List.length_nil, Nat.add_zero] at i1
          rw [← i1]
          refine itl ?_
          unfold m_spec_ReadJournal_b0
          simp only [d, d150, cond_true, jn_eq, hg, Option.bind_some, e1, Bool.not_true, cond_false, hsl, hsub, p1, h2, hap, frz, selim, hw]
        · have e : rd (cur :: (splitL 10 rest).dropLast) out = out := by
            unfold rd
            rw [if_neg h150, if_neg h2]
          rw [e]
          have h2f : (PA cur).2 = false := by simpa using h2
          refine ⟨.inr out, itr ?_, .inr rfl⟩
          unfold m_spec_ReadJournal_b0
          simp only [d, d150, cond_true, jn_eq, hg, Option.bind_some, e1, Bool.not_true, cond_false, hsl, hsub, p1, h2f, Bool.not_false, selim]
      · have hxn : ¬ (x.toNat : Int) = 10 := fun e => hxc (UInt8.toNat_inj.1 (by show x.toNat = 10; omega))
        have e1 : decide ((x.toNat : Int) = 10) = false := decide_eq_false hxn
        obtain ⟨o, i1, i2⟩ := sloop hL rest pre (cur ++ [x]) out N (by rw [h]; simp) (by simp [hc, Ne.symm hxc]) (by omega) ho
        rw [show cur ++ [x] ++ rest = cur ++ x :: rest by simp] at i2
        refine ⟨o, ?_, i2⟩
        have e2 : pre.length + (cur ++ [x]).length = pre.length + cur.length + 1 := by simp; omega
        rw [e2] at i1
        rw [← i1]
        refine itl ?_
        unfold m_spec_ReadJournal_b0
        simp only [d, d150, cond_true, jn_eq, hg, Option.bind_some, e1, Bool.not_false, selim, hw]
theorem sread {L : List UInt8} (hL : L.length ≤ 1048576) : m_spec_ReadJournal (txt L) = some (rd (linesOf L) []) := by
  obtain ⟨o, h1, h2⟩ := sloop hL L [] [] [] NN rfl (by simp) (by unfold NN; omega) (by simp)
  have h1' : iterF (m_spec_ReadJournal_b0 (txt L)) NN (0, 0, []) = some o := h1
  unfold m_spec_ReadJournal
  rw [h1', Option.bind_some]
  rcases h2 with rfl | rfl <;> rfl
theorem read_ok {L : List UInt8} (hL : L.length ≤ 1048576) : RdOk (rd (linesOf L) []) := rd_ok _ _ (fun l h => Nat.le_trans (linesOf_le L l h) hL) ⟨by simp, by simp⟩
set_option maxRecDepth 100000
def cAU (a : YAct) (u : Value) : List PV := [vi a.kind, vi a.parcel.label.service, vi a.parcel.label.serial, vs a.parcel.label.to_, vs a.parcel.from_, vi a.parcel.weight, .v u, vi a.parcel.value, vi a.order, vi a.amount, vi a.until_, vi a.trip.leg, vi a.trip.day]
def actU (os : List YAct) (us : Nat → Value) : List (List PV) := os.mapIdx fun j o => cAU o (us j)
theorem actU_get {os : List YAct} {us : Nat → Value} {i : Nat} {cs : List PV} (h : (actU os us)[i]? = some cs) : ∃ o, os[i]? = some o ∧ cs = cAU o (us i) := by
  unfold actU at h
  rw [List.getElem?_mapIdx] at h
  obtain ⟨o, h1, rfl⟩ := Option.map_eq_some_iff.1 h
  exact ⟨o, h1, rfl⟩
theorem actU_of {os : List YAct} {us : Nat → Value} {i : Nat} {o : YAct} (h : os[i]? = some o) : (actU os us)[i]? = some (cAU o (us i)) := by
  unfold actU
  rw [List.getElem?_mapIdx, h]; rfl
theorem actU_len {os : List YAct} {us : Nat → Value} : (actU os us).length = os.length := by simp [actU]
theorem markActS_0 (A : Option Addr) (c : Nat) (k : Int) (w : World) : Calls Tryz.prog 14 #[.slice A 0 c, .int .i64 k] w fun e w' => e = .returned (.int .i64 k) ∧ w' = w := by
  go_enter Tryz.func14, Tryz.ntmps14
  go_wp2
  go_loopw [5, 1] (fun i kk wr => i = .int .i64 0 ∧ kk = .int .i64 k ∧ wr = w) (fun _ _ _ => 0)
  case atStart => exact ⟨rfl, rfl, rfl⟩
  case round =>
    obtain ⟨rfl, rfl, rfl⟩ := hrel
    go_wp2
    go_ret
    exact ⟨rfl, rfl⟩
abbrev RBj (w : World) (T : TypeId) (k : Nat) (es : List (List PV)) (B : Blk) : Prop := BlkRep w E00 ⟨.of T, k, es⟩ B
theorem RBj.lt {w : World} {T : TypeId} {k : Nat} {es : List (List PV)} {B : Blk} (h : RBj w T k es B) (hz : B.z = false) : B.b < w.heap.size := by
  obtain ⟨cells, m1, _⟩ := h.mem hz
  exact (Array.getElem?_eq_some_iff.1 m1).1
theorem actV_cell {q : Int} {n : Nat} {u : Value} {j : Nat} {p : PV} (h : (cAU (mAc q n) u)[j]? = some p) (h6 : j ≠ 6) : ∃ v, p = .v v ∧ actMV q n j = some v ∧ v.oneCell' = true := by
  match j, h with
  | 0, h => obtain rfl := Option.some.inj h; exact ⟨_, rfl, rfl, rfl⟩
  | 1, h => obtain rfl := Option.some.inj h; exact ⟨_, rfl, rfl, rfl⟩
  | 2, h => obtain rfl := Option.some.inj h; exact ⟨_, rfl, by show some (Value.int .i64 (q + 1 + 1)) = some (.int .i64 (q + 2)); congr 2; omega, rfl⟩
  | 3, h => obtain rfl := Option.some.inj h; exact ⟨_, rfl, by show some (Value.string (markTxt (q + 1 + 1 + 1))) = some (.string (markTxt (q + 3))); congr 3; omega, rfl⟩
  | 4, h => obtain rfl := Option.some.inj h; exact ⟨_, rfl, by show some (Value.string (markTxt (q + 1 + 1 + 1 + 1))) = some (.string (markTxt (q + 4))); congr 3; omega, rfl⟩
  | 5, h => obtain rfl := Option.some.inj h; exact ⟨_, rfl, by show some (Value.int .i64 (q + 1 + 1 + 1 + 1 + 1)) = some (.int .i64 (q + 5)); congr 2; omega, rfl⟩
  | 6, h => exact absurd rfl h6
  | 7, h => obtain rfl := Option.some.inj h; exact ⟨_, rfl, by show some (Value.int .i64 (q + 1 + 1 + 1 + 1 + 1 + 1 + (n : Int))) = some (.int .i64 (q + 6 + n)); congr 2; omega, rfl⟩
  | 8, h => obtain rfl := Option.some.inj h; exact ⟨_, rfl, by show some (Value.int .i64 (q + 1 + 1 + 1 + 1 + 1 + 1 + (n : Int) + 1)) = some (.int .i64 (q + 7 + n)); congr 2; omega, rfl⟩
  | 9, h => obtain rfl := Option.some.inj h; exact ⟨_, rfl, by show some (Value.int .i64 (q + 1 + 1 + 1 + 1 + 1 + 1 + (n : Int) + 1 + 1)) = some (.int .i64 (q + 8 + n)); congr 2; omega, rfl⟩
  | 10, h => obtain rfl := Option.some.inj h; exact ⟨_, rfl, by show some (Value.int .i64 (q + 1 + 1 + 1 + 1 + 1 + 1 + (n : Int) + 1 + 1 + 1)) = some (.int .i64 (q + 9 + n)); congr 2; omega, rfl⟩
  | 11, h => obtain rfl := Option.some.inj h; exact ⟨_, rfl, by show some (Value.int .i64 (q + 1 + 1 + 1 + 1 + 1 + 1 + (n : Int) + 1 + 1 + 1 + 1)) = some (.int .i64 (q + 10 + n)); congr 2; omega, rfl⟩
  | 12, h => obtain rfl := Option.some.inj h; exact ⟨_, rfl, by show some (Value.int .i64 (q + 1 + 1 + 1 + 1 + 1 + 1 + (n : Int) + 1 + 1 + 1 + 1 + 1)) = some (.int .i64 (q + 11 + n)); congr 2; omega, rfl⟩
  | j + 13, h => simp [cAU] at h
structure OwnA (w a : World) (r : List YAct) (us : Nat → Value) (W : Nat → Blk) (B : Blk) : Prop where
  row : RBj a 30 13 (actU r us) B
  sd : ∀ j x, r[j]? = some x → SdB a x.parcel.sides (us j) (W j)
  ne : ∀ j, j < r.length → (W j).z = false → B.z = false → (W j).b ≠ B.b
  inj : ∀ i j, i < r.length → j < r.length → (W i).z = false → (W j).z = false → (W i).b = (W j).b → i = j
  newB : B.z = false → w.heap.size ≤ B.b
  newW : ∀ j, j < r.length → (W j).z = false → w.heap.size ≤ (W j).b
theorem OwnA.up {w a b : World} {r : List YAct} {us : Nat → Value} {W : Nat → Blk} {B : Blk} (h : OwnA w a r us W B) (hu : Up a b) : OwnA w b r us W B :=
  { h with row := h.row.keep0 fun hz => hu.block _ (RBj.lt h.row hz), sd := fun j x hx => (h.sd j x hx).keep fun hz => hu.block _ ((h.sd j x hx).lt hz) }
theorem markActs {w0 w : World} (ht : TabF w0) (hu0 : Up w0 w) {os : List YAct} {us : Nat → Value} {W : Nat → Blk} {B : Blk} {k : Int} (h : OwnA w0 w os us W B) (hn : os.length ≤ 1048576) (hw : ∀ o ∈ os, o.parcel.sides.length ≤ 1048576) (h0 : 1 ≤ k) (h1 : nAc k os ≤ 1000000000) :
    Calls Tryz.prog 14 #[B.sv, .int .i64 k] w fun e w' => e = .returned (.int .i64 (nAc k os)) ∧ OwnA w0 w' (mkAc k os) us W B ∧ UpO (fun b => (B.z = false ∧ b = B.b) ∨ QS os W b) w w' := by
  have hB := h.row
  cases hz : B.z with
  | true =>
    have h0' := hB.nil hz
    have : os = [] := by
      have := congrArg List.length h0'
      rw [actU_len] at this
      exact List.length_eq_zero_iff.1 this
    subst this
    refine (by simpa [Blk.sv, hz] using markActS_0 none 0 k w : Calls Tryz.prog 14 #[B.sv, .int .i64 k] w fun e w' => e = .returned (.int .i64 k) ∧ w' = w).mono ?_
    rintro e w' ⟨rfl, rfl⟩
    exact ⟨rfl, h, UpO.refl _ _⟩
  | false =>
    obtain ⟨cells, m1, m2, m3⟩ := hB.mem hz
    have hk : B.k = 13 := hB.k
    have hnn : B.n = os.length := hB.n.trans actU_len
    have hT : B.T = 30 := hB.T
    rw [hT] at m1
    rw [hk] at m2 m3
    have hnc := hB.nc
    have hs : MIa os us W k B.b cells.size w 0 w := by
      refine ⟨MX.start ⟨cells, m1, rfl, fun o v ho => ?_⟩, fun i hi => absurd hi (Nat.not_lt_zero i), fun i _ o ho => h.sd i o ho⟩
      unfold PPa at ho
      split at ho
      · rename_i hlt
        split at ho
        · rename_i h6
          have hx : os[o / 13]? = some os[o / 13] := List.getElem?_eq_getElem hlt
          obtain ⟨x, x1, x2, x3⟩ := m3 _ _ 6 (.v (us (o / 13))) (actU_of hx) rfl
          obtain ⟨rfl, _⟩ := x3.v_inv
          rw [show o / 13 * 13 + 6 = o by omega] at x1
          rw [x1]; exact ho
        · rw [if_neg (Nat.not_lt_zero _)] at ho; cases ho
      · cases ho
    have hsv : B.sv = .slice (some ⟨B.b, 0, none⟩) os.length B.c := by simp [Blk.sv, hz, hnn]
    rw [hsv]
    refine (markActS_x os us W k B.b B.c cells.size (by rw [m2]; exact Nat.mul_le_mul_right _ (by omega)) w0 ht w hu0 hs hn hw h0 h1 (h.newB hz) h.newW (fun j hj hzj => h.ne j hj hzj hz) h.inj).mono ?_
    rintro e w' ⟨rfl, hM⟩
    have hsd : ∀ j o, (mkAc k os)[j]? = some o → SdB w' o.parcel.sides (us j) (W j) := fun j o ho => by
      rw [mkAc_get] at ho
      obtain ⟨x, h2, rfl⟩ := Option.map_eq_some_iff.1 ho
      exact hM.done j (List.getElem?_eq_some_iff.1 h2).1 x h2
    refine ⟨rfl, ⟨⟨hk, by rw [hnn, actU_len, mkAc_len], hT, hB.pos, hB.nc, hB.cm, fun i cs hi => ?_, fun h => (by rw [hz] at h; cases h), fun _ => ?_, fun _ h => by cases h⟩, hsd, fun j hj => h.ne j (by rwa [mkAc_len] at hj), fun i j hi hj => h.inj i j (by rwa [mkAc_len] at hi) (by rwa [mkAc_len] at hj), h.newB, fun j hj => h.newW j (by rwa [mkAc_len] at hj)⟩, ⟨hM.mx.os, hM.mx.tape, hM.mx.output, hM.mx.size, fun b hb hn => hM.mx.oth b hb (fun e => hn (.inl ⟨rfl, e⟩)) fun hq => hn (.inr hq)⟩⟩
    · obtain ⟨o, _, rfl⟩ := actU_get hi
      rw [hk]; rfl
    · obtain ⟨c, c1, c2, c3⟩ := hM.mx.row
      refine ⟨c, by rw [hT]; exact c1, by rw [c2, m2, hk], fun i cs j p hi hj => ?_⟩
      obtain ⟨o, ho, rfl⟩ := actU_get hi
      rw [mkAc_get] at ho
      obtain ⟨x, h2, rfl⟩ := Option.map_eq_some_iff.1 ho
      have hil : i < os.length := (List.getElem?_eq_some_iff.1 h2).1
      have hjl : j < 13 := by have := (List.getElem?_eq_some_iff.1 hj).1; simpa [cAU] using this
      rw [hk]
      by_cases h6 : j = 6
      · subst h6
        obtain rfl := Option.some.inj hj
        obtain ⟨A, cc, hu⟩ := (hM.done i hil x h2).one
        refine ⟨us i, c3 _ _ ?_, by rw [hu]; rfl, .c (.v _ (by rw [hu]; rfl))⟩
        unfold PPa
        rw [show (i * 13 + 6) / 13 = i by omega, if_pos hil, if_pos (by omega)]
      · obtain ⟨v, rfl, hv, h1c⟩ := actV_cell hj h6
        refine ⟨v, c3 _ _ ?_, h1c, .c (.v _ h1c)⟩
        unfold PPa
        rw [show (i * 13 + j) / 13 = i by omega, if_pos hil, if_neg (by omega), if_pos hil, slen_get h2, show (i * 13 + j) % 13 = j by omega]
        exact hv
theorem sd_of {w : World} {E : Env} {xs : List Int} {u : Value} (hr : Rep w E (.sl (xs.map cInt)) u) {q : Key} (hk : xs ≠ [] → KeyAt w E 3 q (xs.map cInt) u) : ∃ B : Blk, SdB w xs u B ∧ (B.z = false → E.ω B.b q) := by
  have h := hr.sl_inv
  by_cases h0 : xs = []
  · subst h0
    refine ⟨⟨0, 0, 0, 1, 3, true⟩, .inl ⟨rfl, rfl, ?_⟩, fun h => by cases h⟩
    generalize hq : PV.sl (([] : List Int).map cInt) = p at h
    cases h with
    | nil A c => exact ⟨A, c, rfl⟩
    | sl es b off k c u hS hkk hn hm hes hc h1 hr =>
      obtain rfl : ([] : List (List PV)) = es := by simpa using hq
      exact ⟨_, _, rfl⟩
    | v => cases hq
    | ud => cases hq
    | un => cases hq
    | rp => cases hq
    | fn => cases hq
  · obtain ⟨b, c, k, cs, rfl, hw, hh, hs, hk0, hnc, hcm, hlen⟩ := hk h0
    obtain ⟨t, hx⟩ : ∃ t, xs[0]? = some t := ⟨xs[0]'(List.length_pos_iff.2 h0), List.getElem?_eq_getElem _⟩
    have hk2 : k = 1 := by
      have := hlen (cInt t) (List.mem_map.2 ⟨t, List.mem_of_getElem? hx, rfl⟩)
      exact this.symm
    subst hk2
    rw [List.length_map] at hnc
    refine ⟨⟨b, c, xs.length, 1, 3, false⟩, .inr ⟨rfl, by simp [Blk.sv], rfl, by simp, rfl, Nat.zero_lt_one, hnc, hcm, fun i ds hi => hlen ds (List.mem_of_getElem? hi), fun h => (by cases h), fun _ => ⟨cs, hh, hs, fun i ds j p hi hj => ?_⟩, fun _ h => by cases h⟩, fun _ => hw⟩
    generalize hq : PV.sl (xs.map cInt) = p0 at h
    generalize hu : Value.slice (some ⟨b, 0, none⟩) (xs.map cInt).length c = u0 at h
    cases h with
    | nil A c => simp at hq; exact absurd hq h0
    | sl es b' off k' c' u hS hkk hn hm hes hc h1 hr =>
      obtain rfl : xs.map cInt = es := by simpa using hq
      have e : b = b' ∧ 0 = off := by
        injection hu with e1 _ _
        injection e1 with e1
        injection e1 with e1 e2
        exact ⟨e1, e2⟩
      obtain ⟨rfl, rfl⟩ := e
      have hk' : 1 = k' := hes 0 (cInt t) (by rw [List.getElem?_map, hx]; rfl)
      subst hk'
      have h3 := hc i ds j p hi hj
      rw [Nat.zero_add, cell_of_row w b _ cs _ (0, 0) hh] at h3
      obtain ⟨v, rfl⟩ := int_v (List.mem_of_getElem? hi) (List.mem_of_getElem? hj)
      have h4 := hr i ds j _ hi hj
      have h5 := h1 i ds j _ hi hj
      have e6 : u i j = v := by cases h4; rfl
      rw [e6] at h3 h5
      exact ⟨v, h3, h5, .c (.v _ h5)⟩
    | v => cases hq
    | ud => cases hq
    | un => cases hq
    | rp => cases hq
    | fn => cases hq
theorem act_v {o : YAct} {u : Value} {j : Nat} {p : PV} (h : (cAU o u)[j]? = some p) (h6 : j ≠ 6) : (∃ v, p = .v v) ∧ (cAct o)[j]? = some p := by
  match j, h with
  | 0, h | 1, h | 2, h | 3, h | 4, h | 5, h | 7, h | 8, h | 9, h | 10, h | 11, h | 12, h => obtain rfl := Option.some.inj h; exact ⟨⟨_, rfl⟩, rfl⟩
  | 6, h => exact absurd rfl h6
  | j + 13, h => simp [cAU] at h
theorem act_v' {o : YAct} {u : Value} {j : Nat} {p : PV} (h : (cAct o)[j]? = some p) (h6 : j ≠ 6) : (∃ v, p = .v v) ∧ (cAU o u)[j]? = some p := by
  match j, h with
  | 0, h | 1, h | 2, h | 3, h | 4, h | 5, h | 7, h | 8, h | 9, h | 10, h | 11, h | 12, h => obtain rfl := Option.some.inj h; exact ⟨⟨_, rfl⟩, rfl⟩
  | 6, h => exact absurd rfl h6
  | j + 13, h => simp [cAct] at h
theorem acts_of {w w' : World} {E : Env} {r : List YAct} {v : Value} {O : Nat → Prop} (hk : Ok w O E w' [some ⟨⟨30, some 3⟩, 13, r.map cAct⟩]) (hO : ∀ b, ¬ O b) (hω : ∀ b q, E.ω b q → w.heap.size ≤ b) (hr : Rep w' E (.ms 0) v) :
    ∃ us W B, v = Blk.sv B ∧ OwnA w w' r us W B := by
  obtain ⟨B, b3, r3, rfl⟩ := hr.ms_inv hk (l := 0) rfl
  have hw : ∀ j : Nat, ∃ uB : Value × Blk, ∀ o, r[j]? = some o → (B.z = false → w'.cell? ⟨B.b, j * 13 + 6, none⟩ = some uB.1 ∧ uB.1.oneCell' = true) ∧ SdB w' o.parcel.sides uB.1 uB.2 ∧ (uB.2.z = false → E.ω uB.2.b (30, j, 6)) := by
    intro j
    cases ho : r[j]? with
    | none => exact ⟨(undef, B), fun o h => by cases h⟩
    | some o =>
      have hi : (r.map cAct)[j]? = some (cAct o) := by rw [List.getElem?_map, ho]; rfl
      have hz : B.z = false := r3.full hi
      obtain ⟨cells, m1, m2, m3⟩ := r3.mem hz
      have hk11 : B.k = 13 := r3.k
      obtain ⟨x, a1, a2, a3⟩ := m3 j _ 6 (.sl (o.parcel.sides.map cInt)) hi rfl
      rw [hk11] at a1
      have hcell : w'.cell? ⟨B.b, j * 13 + 6, none⟩ = some x := by rw [cell_of_row w' B.b _ cells B.T (0, 0) m1]; exact a1
      obtain ⟨B', c1, c2⟩ := sd_of a3 (q := (30, j, 6)) fun hne => r3.key 3 rfl hz j _ 6 _ x hi rfl (by simpa using hne) (by rw [hk11]; exact hcell)
      exact ⟨(x, B'), fun o' h => by cases h; exact ⟨fun _ => ⟨hcell, a2⟩, c1, c2⟩⟩
  obtain ⟨uB, huB⟩ := Classical.axiomOfChoice hw
  have hown : ∀ {l : Nat} {B : Blk}, E.β l = some B → B.z = false → w.heap.size ≤ B.b := fun hB hz => by
    rcases (hk.own _ _ hB hz).1 with h | h
    · exact absurd h (hO _)
    · exact h
  have hS : ∀ j o, r[j]? = some o → (uB j).2.z = false → E.S (uB j).2.b := fun j o ho hz => (hk.ow _ _ ((huB j o ho).2.2 hz)).1
  refine ⟨fun j => (uB j).1, fun j => (uB j).2, B, rfl, ?_, fun j o ho => (huB j o ho).2.1, ?_, ?_, fun hz => hown b3 hz, fun j hj hz => hω _ _ ((huB j _ (List.getElem?_eq_getElem hj)).2.2 hz)⟩
  · refine ⟨r3.k, r3.n.trans (by rw [actU_len]; simp), r3.T, r3.pos, r3.nc, r3.cm, fun i cs hi => ?_, fun hz => ?_, fun hz => ?_, fun _ h => by cases h⟩
    · obtain ⟨o, _, rfl⟩ := actU_get hi
      rw [r3.k]; rfl
    · have := r3.nil hz
      have h0 : r = [] := by simpa using this
      show actU r _ = []
      rw [h0]; rfl
    · obtain ⟨cells, m1, m2, m3⟩ := r3.mem hz
      refine ⟨cells, m1, m2, fun i cs j p hi hj => ?_⟩
      obtain ⟨o, ho, rfl⟩ := actU_get hi
      have hi' : (r.map cAct)[i]? = some (cAct o) := by rw [List.getElem?_map, ho]; rfl
      by_cases h6 : j = 6
      · subst h6
        obtain rfl := Option.some.inj hj
        obtain ⟨hc, ho1⟩ := (huB i o ho).1 hz
        rw [cell_of_row w' B.b _ cells B.T (0, 0) m1] at hc
        have hk11 : B.k = 13 := r3.k
        rw [hk11]
        exact ⟨_, hc, ho1, .c (.v _ ho1)⟩
      · obtain ⟨⟨v, rfl⟩, hj'⟩ := act_v hj h6
        obtain ⟨x, a1, a2, a3⟩ := m3 i _ j _ hi' hj'
        obtain ⟨rfl, _⟩ := a3.v_inv
        exact ⟨x, a1, a2, .c (.v _ a2)⟩
  · intro j hj hz hz' e
    have := hS j _ (List.getElem?_eq_getElem hj) hz
    have e' : (uB j).2.b = B.b := e
    rw [e'] at this
    exact (hk.own _ _ b3 hz').2.2 this
  · intro i j hi hj zi zj e
    have a := (huB i _ (List.getElem?_eq_getElem hi)).2.2 zi
    have b := (huB j _ (List.getElem?_eq_getElem hj)).2.2 zj
    have e' : (uB i).2.b = (uB j).2.b := e
    rw [e'] at a
    have := (hk.ow _ _ b).2 _ a
    simpa using this
abbrev Al (w : World) : Nat → Prop := fun b => b < w.heap.size
theorem ok_al {w : World} (h : TabF w) : Ok w (own0 fun _ => none) (E1 (Al w) (fun _ => none) 0) w [] :=
  ⟨UpO.refl _ _, fun b h => h, fun l B h => (by cases h), fun l l' B B' h => (by cases h), fun l h => absurd h (Nat.not_lt_zero l), fun l B h => (by cases h), fun l mb h => (by simp at h), fun l B h => (by cases h), tab_of_F h, fun _ _ h => h.elim⟩
theorem up_ok {w w' : World} {E : Env} {m : Mem} (h : Ok w (own0 fun _ => none) E w' m) : Up w w' := ⟨h.up.os, h.up.tape, h.up.output, h.up.size, fun b hb => h.up.block b hb own_none⟩
section
variable {P : Program}
theorem CallM.acts {f : FuncId} {args : List PV} {r : List YAct} (h : CallM P f args [] (.ms 0) [some ⟨⟨30, some 3⟩, 13, r.map cAct⟩]) {w : World} (ht : TabF w) {vs : Array Value} (hl : vs.size = args.length) (ha : ∀ (i : Nat) (p : PV), args[i]? = some p → ∃ x, vs[i]? = some x ∧ Rep w (E1 (Al w) (fun _ => none) 0) p x) :
    Calls P f vs w fun e a => ∃ us W B, e = .returned (Blk.sv B) ∧ Up w a ∧ OwnA w a r us W B := by
  refine (h (Al w) (fun _ => none) w vs (fun _ _ => False) (ok_al ht) hl ha).mono ?_
  rintro e a ⟨v, E, rfl, hk, _, _, ⟨_, hω⟩, hr⟩
  obtain ⟨us, W, B, rfl, g⟩ := acts_of hk (fun b => own_none) (fun b q hq => by
    rcases hω b q hq with h | h | h
    · exact h.elim
    · exact h
    · exact absurd h own_none) hr
  exact ⟨us, W, B, rfl, up_ok hk, g⟩
theorem CallM.rows {f : FuncId} {args : List PV} {T k : Nat} {es : List (List PV)} (h : CallM P f args [] (.ms 0) [some ⟨.of T, k, es⟩]) (hes : ∀ cs ∈ es, ∀ q ∈ cs, isC q = true) {w : World} (ht : TabF w) {vs : Array Value} (hl : vs.size = args.length) (ha : ∀ (i : Nat) (p : PV), args[i]? = some p → ∃ x, vs[i]? = some x ∧ Rep w (E1 (Al w) (fun _ => none) 0) p x) :
    Calls P f vs w fun e a => ∃ v, e = .returned v ∧ Up w a ∧ RepC a (Al a) (.sl es) v := by
  refine (h (Al w) (fun _ => none) w vs (fun _ _ => False) (ok_al ht) hl ha).mono ?_
  rintro e a ⟨v, E, rfl, hk, _, _, _, hr⟩
  obtain ⟨B, b0, r0, rfl⟩ := hr.ms_inv hk (l := 0) rfl
  exact ⟨_, rfl, up_ok hk, row_all b0 r0 hes (fun b hb => hk.sz b hb) fun hz => (hk.own _ _ b0 hz).2.1⟩
end
theorem isC_act {l : List YAct} : ∀ cs ∈ l.map cAct, ∀ q ∈ cs, isC q = true := by
  intro cs hcs q hq
  obtain ⟨o, _, rfl⟩ := List.mem_map.1 hcs
  simp only [cAct, List.mem_cons, List.not_mem_nil, or_false] at hq
  repeat (first | (rcases hq with rfl | hq; rfl) | (subst hq; rfl))
theorem RBj.repc {w : World} {T : TypeId} {k : Nat} {es0 : List (List PV)} {B : Blk} (h : RBj w T k es0 B) (es : List (List PV)) (hn : es.length = es0.length) (hk : ∀ (i : Nat) (cs : List PV), es[i]? = some cs → cs.length = k)
    (hc : B.z = false → ∀ (i : Nat) (cs : List PV) (j : Nat) (p : PV), es[i]? = some cs → cs[j]? = some p → ∃ x, w.cell? ⟨B.b, i * k + j, none⟩ = some x ∧ x.oneCell' = true ∧ RepC w (Al w) p x) : RepC w (Al w) (.sl es) B.sv := by
  have hBk : B.k = k := h.k
  have hBn : B.n = es0.length := h.n
  cases hz : B.z with
  | true =>
    have h0 : es0 = [] := h.nil hz
    have : es = [] := List.length_eq_zero_iff.1 (by rw [hn, h0]; rfl)
    subst this
    simp only [Blk.sv, hz, if_true]
    exact .nil _ _
  | false =>
    have hlt := RBj.lt h hz
    have hc := hc hz
    have hat : ∀ (i : Nat) (cs : List PV) (j : Nat) (p : PV), es[i]? = some cs → cs[j]? = some p → w.cell? ⟨B.b, 0 + i * k + j, none⟩ = some ((w.cell? ⟨B.b, 0 + i * k + j, none⟩).getD .nilIface) := fun i cs j p hi hj => by
      obtain ⟨x, a, _, _⟩ := hc i cs j p hi hj
      rw [Nat.zero_add, a]; rfl
    have hx : ∀ (i : Nat) (cs : List PV) (j : Nat) (p : PV), es[i]? = some cs → cs[j]? = some p → ((w.cell? ⟨B.b, 0 + i * k + j, none⟩).getD .nilIface).oneCell' = true ∧ RepC w (Al w) p ((w.cell? ⟨B.b, 0 + i * k + j, none⟩).getD .nilIface) := fun i cs j p hi hj => by
      obtain ⟨x, a, b, c⟩ := hc i cs j p hi hj
      rw [Nat.zero_add, a]
      exact ⟨b, c⟩
    have e : B.sv = .slice (some ⟨B.b, 0, none⟩) es.length B.c := by
      simp only [Blk.sv, hz]
      rw [hBn, hn]; rfl
    rw [e]
    exact .sl es B.b 0 k B.c _ hlt (by rw [← hBk]; exact h.pos) (by rw [hn, ← hBn]; exact h.nc) h.cm hk hat (fun i cs j p hi hj => (hx i cs j p hi hj).1) (fun i cs j p hi hj => (hx i cs j p hi hj).2)
theorem RBj.cell {w : World} {T : TypeId} {k : Nat} {es : List (List PV)} {B : Blk} (h : RBj w T k es B) (hz : B.z = false) {i j : Nat} {cs : List PV} {p : PV} (hi : es[i]? = some cs) (hj : cs[j]? = some p) : ∃ x, w.cell? ⟨B.b, i * k + j, none⟩ = some x ∧ x.oneCell' = true ∧ Rep w E00 p x := by
  obtain ⟨cells, m1, m2, m3⟩ := h.mem hz
  obtain ⟨x, a, b, c⟩ := m3 i cs j p hi hj
  have hBk : B.k = k := h.k
  rw [hBk] at a
  exact ⟨x, by rw [cell_of_row w B.b _ cells B.T (0, 0) m1]; exact a, b, c⟩
theorem RBj.flat {w : World} {T : TypeId} {k : Nat} {es : List (List PV)} {B : Blk} (h : RBj w T k es B) (hf : ∀ cs ∈ es, ∀ p ∈ cs, ∃ v, p = .v v) : RepC w (Al w) (.sl es) B.sv :=
  RBj.repc h es rfl (fun i cs hi => (h.es i cs hi).trans h.k) fun hz i cs j p hi hj => by
    obtain ⟨x, a, b, c⟩ := RBj.cell h hz hi hj
    obtain ⟨v, rfl⟩ := hf cs (List.mem_of_getElem? hi) p (List.mem_of_getElem? hj)
    obtain ⟨rfl, h1⟩ := c.v_inv
    exact ⟨x, a, b, .v _ h1⟩
theorem SdB.repc {w : World} {xs : List Int} {u : Value} {B : Blk} (h : SdB w xs u B) : RepC w (Al w) (.sl (xs.map cInt)) u := by
  rcases h with ⟨rfl, _, A, c, rfl⟩ | ⟨_, rfl, hb⟩
  · exact .nil A c
  · exact RBj.flat hb fun cs hcs p hp => int_v hcs hp
theorem OwnA.rep {w a : World} {r : List YAct} {us : Nat → Value} {W : Nat → Blk} {B : Blk} (h : OwnA w a r us W B) : RepC a (Al a) (.sl (r.map cAct)) B.sv :=
  RBj.repc h.row _ (by rw [actU_len, List.length_map]) (fun i cs hi => by
      obtain ⟨o, _, rfl⟩ := List.mem_map.1 (List.mem_of_getElem? hi); rfl) fun hz i cs j p hi hj => by
    rw [List.getElem?_map] at hi
    obtain ⟨o, ho, rfl⟩ := Option.map_eq_some_iff.1 hi
    by_cases h6 : j = 6
    · subst h6
      obtain ⟨x, a, b, c⟩ := RBj.cell h.row hz (actU_of (us := us) ho) (j := 6) (p := .v (us i)) rfl
      obtain ⟨rfl, _⟩ := c.v_inv
      obtain rfl := Option.some.inj hj
      exact ⟨_, a, b, (h.sd i o ho).repc⟩
    · obtain ⟨⟨v, rfl⟩, hj'⟩ := act_v' (u := us i) hj h6
      obtain ⟨x, a, b, c⟩ := RBj.cell h.row hz (actU_of (us := us) ho) hj'
      obtain ⟨rfl, h1⟩ := c.v_inv
      exact ⟨_, a, b, .v _ h1⟩
end Go.Proofs.YtkfbakhnpfmfmaaGreatDoor
