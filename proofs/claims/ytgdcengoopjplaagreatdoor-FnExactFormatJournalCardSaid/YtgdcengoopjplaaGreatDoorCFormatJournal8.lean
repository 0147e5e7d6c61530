/- The statement FnExactFormatJournalCardSaid: for every input that can be read the law FnExactFormatJournal returns true and leaves its arguments as they were. No further condition. -/
import Derived.Test.YtgdcengoopjplaaGreatDoorRows
import Derived.Test.YtgdcengoopjplaaGreatDoorTie
import Derived.Test.YtgdcengoopjplaaGreatDoorCards
import Derived.Test.YtgdcengoopjplaaGreatDoorCFormatJournal3
import Derived.Test.YtgdcengoopjplaaGreatDoorCFormatJournal7
import Derived.OpenShut
import Derived.LaidMore
import Derived.Stop.Joined
import Derived.Stop.LaidErr
import Derived.SevenTiedAt
/- The statement FnExactFormatJournalCardSaid: for every input that can be read the law FnExactFormatJournal returns true and leaves its arguments as_ they were. No further condition. -/
namespace Go.Proofs.YtgdcengoopjplaaGreatDoor
open Go.ChangeShapes Go.WideShapes Go.ChangeAt Go.RowKit Go.Deep
set_option linter.unusedVariables false
namespace fnExactFormatJournal
theorem own:ownKnob Tryz.prog.godebug=none:=by kernel_rfl
theorem laidOut:laidOutB Tryz.prog=true:=by kernel_rfl
theorem gTab : Tryz.prog.globalNamed "internal/strconv.uint64pow10" = some 3 := by kernel_rfl
theorem tTab:(Tryz.prog.globals[3]?).map (·.type)=some 235:=by kernel_rfl
theorem uTab:Tryz.prog.underlying 235=some (.array 20 182):=by kernel_rfl
theorem uEl:Tryz.prog.underlying 182=some (.int .u64):=by kernel_rfl
theorem cEl:Tryz.prog.cellsOf 182=1:=by kernel_rfl
theorem cTab:Tryz.prog.cellsOf 235=20:=by kernel_rfl
abbrev laid3:List (String × DataW Unit):=Rows.fnExactFormatJournalRow.laid
theorem tab_of {W:World} (h:laidMetH Tryz.prog laid3 W):Tab W (own0 fun _=>none):=by
 rw [MakeChecks.laidMetH_plain _ _ _ (by kernel_rfl)] at h
 have h2:=laidMet.tail (laidMet.tail h)
 have hT:TabF W:=Lib.tabIs_of_head (zs:=Lib.pow10Tab) gTab tTab uTab uEl cEl cTab h2
 have hlt:3<W.heap.size:=by
  rcases Nat.lt_or_ge 3 W.heap.size with h0 | h0
  ·exact h0
  ·exfalso
   unfold TabF Lib.TabIs World.var? at hT
   rw [gTab] at hT
   simp only [Option.bind_some] at hT
   rw [Array.getElem?_eq_none (by omega)] at hT
   cases hT
 refine ⟨fun b=>b=3,?_,?_⟩
 ·rintro b rfl
  refine ⟨hlt,?_⟩
  rintro ⟨l,B,h,_⟩
  cases h
 ·intro w' hw
  have e:=hw 3 rfl
  unfold TabF Lib.TabIs World.var? at hT ⊢
  rw [gTab] at hT ⊢
  simp only [Option.bind_some] at hT ⊢
  rw [e]
  exact hT
theorem door_met (os:Os) (args:Array Value):laidMetH Tryz.prog laid3 ((World.doorLaid Tryz.prog 400 os).forCall (fun _ _=>0) ⟨#[],args,[]⟩).memory:=
 laidMetH_of_parts3 (fuel:=8) (laidMet_of_run' 8 (by kernel_rfl) (by kernel_rfl)) (by kernel_rfl) (by kernel_rfl)
set_option maxRecDepth 100000 in
theorem lifted (os:Os) (started:os.Started) (H:Type) (enc:TypeId × Value→H):
 ReturnsInHanded {} Tryz.checked os 6 .any (fun w args=>(Rows.fnExactFormatJournalSpec.pre enc Tryz.prog Tryz.f6 [] false w args∧laidMetH Tryz.prog laid3 w)∧sizedMet enc Tryz.prog Tryz.f6 (OpenSpec.ofChange Rows.fnExactFormatJournalSpec) false w args) (Rows.fnExactFormatJournalSpec.post enc Tryz.prog Tryz.f6 false true false false):=by
 refine returnsInHanded_of_change_and (C:=Tryz.checked) (X:=fun w _=>laidMetH Tryz.prog laid3 w) (fun _ _ _ hh h=>h.of_heap hh) own started (by kernel_rfl) Tryz.func6
  (ChangeSpec.witness_shaped (enc:=enc) (C:=Tryz.checked) (os:=os) (X:=fun w _=>laidMetH Tryz.prog laid3 w) false (World.doorLaid Tryz.prog 400 os) #[.slice none 0 0] 8 rfl (World.shaped_of_RefB (by kernel_rfl) (by kernel_rfl)) (by kernel_rfl) (by kernel_rfl) (by kernel_rfl) (door_met os _)) ?_
 intro W base args ds gs before hval0 hW _ _ hL _
 have hval:∀ (j:Nat) t v,Tryz.f6.params[j]?=some t→args[j]?=some v→Value.okWide Tryz.prog W .any base t v:=hval0
 have hW':=hW
 obtain ⟨p,q,hA0,hV,rfl,hfz,hnd⟩:=hW
 have hA:DataW.TrodAll enc Tryz.prog W 0 (fun _=>true) true Tryz.f6.params.toList args.toList ds p:=hA0
 rw [Tryz.params6] at hA hval
 obtain ⟨v0,vs0,d0,ds0,p0,q0,hargs,rfl,rfl,h0,r0⟩:=trodAll_cons hA
 obtain ⟨rfl,rfl,rfl⟩:=trodAll_nil r0
 obtain rfl:args=#[v0]:=by cases args; simp_all
 obtain ⟨rfl,rfl⟩:=trodVars_none hV
 have k0:=h0
 have lt0:∀ x∈p0,x.block<W.heap.size:=by obtain ⟨m,hm⟩:=k0; exact DataW.trod_lt m _ _ _ hm
 obtain ⟨A0,n0,c0,rfl⟩:=okWide_slice Tryz.underlying45 (hval 0 45 v0 rfl rfl)
 obtain ⟨x0,hx0,ok0⟩:∃ a:List YAct,Reads W [.sl (a.map cAct)] [.slice A0 n0 c0]∧okS okAct a:=by obtain ⟨fuel,hf⟩:=h0; exact dec_ActS hf
 clear hA0 hval0
 refine (CallOk.run (lawFnExactFormatJournal x0 ok0) (tab_of hL) rfl (vs:=#[.slice A0 n0 c0]) (w:=W) (fun i p hp=>?_)).mono fun e W' ⟨he,bel⟩=>?_
 ·match i,hp with
  | 0,hp=>obtain rfl:=Option.some.inj hp; exact ⟨_,rfl,reads_rep1 hx0⟩
  | n+1,hp=>simp at hp
 subst he
 exact ⟨_,rfl,_,_,_,[],_,[],hW',trodAll_mk1 (shut_bool Tryz.underlying4 _),(trodAll_cons_mk (Below.trod laidOut (by kernel_rfl) (of_decide_eq_true (by kernel_rfl)) k0 bel lt0) trodAll_mk0),rfl,bel.frame _,fun h=>by cases h⟩
theorem over:Rows.FnExactFormatJournalSaid:=
 OpenClaim.holds_of_wide 6 Tryz.f6 rfl rfl rfl rfl rfl rfl rfl ⟨rfl,rfl,rfl,rfl,rfl⟩ rfl rfl rfl rfl rfl (by kernel_rfl) Tryz.func6 (by kernel_rfl)
  (of_decide_eq_true (by kernel_rfl)) (by unfold Func.isWrapper; first | (rw [if_pos (by decide +kernel)]; kernel_rfl) | (rw [if_neg (by decide +kernel)]; exact ⟨rfl,rfl⟩))
  (fun os started H enc _=>lifted os started H enc)
theorem proved:Rows.FnExactFormatJournalCardSaid:=
 Claim7.holds_tied_plain_at .later [] [.data,.data,.data] true Rows.fnExactFormatJournalCard.stood.harness true
  over (fun _ h=>by cases h) (by kernel_rfl) (fun _ h=>by cases h) fnExactFormatJournal_row_tie rfl ⟨rfl,rfl⟩ (by kernel_rfl) rfl
  (fun f fn hf hfn=>by
   obtain rfl : f = 6 := Option.some.inj ((show Tryz.prog.funcNamed "loop.example/g03014/laws.FnExactFormatJournal" = some 6 by kernel_rfl).symm.trans hf) |>.symm
   obtain rfl:fn=Tryz.f6:=(Option.some.inj (Tryz.func6.symm.trans hfn)).symm
   exact ⟨by kernel_rfl,fun j t ht=>by
    rw [Tryz.params6] at ht
    have hm:t∈[45]:=by simpa using Array.mem_of_getElem? ht
    have hall:([45].all fun u=>!Tryz.prog.wantsStandIn u)=true:=by kernel_rfl
    exact (show Tryz.prog.wantsStandIn t=false by simpa using List.all_eq_true.1 hall t hm)⟩)
  (by kernel_rfl)
#print axioms proved
end fnExactFormatJournal
end Go.Proofs.YtgdcengoopjplaaGreatDoor
