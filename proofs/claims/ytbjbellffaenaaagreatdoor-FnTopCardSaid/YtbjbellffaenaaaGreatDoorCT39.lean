/- The statement FnTopCardSaid: for every input that can be read the law FnTop returns true and leaves its arguments as they were. No further condition. -/
import Derived.Test.YtbjbellffaenaaaGreatDoorRows
import Derived.Test.YtbjbellffaenaaaGreatDoorTie
import Derived.Test.YtbjbellffaenaaaGreatDoorCards
import Derived.Test.YtbjbellffaenaaaGreatDoorCT37
import Derived.Test.YtbjbellffaenaaaGreatDoorCT6
import Derived.Test.YtbjbellffaenaaaGreatDoorCT38
import Derived.LaidMore
import Derived.Stop.Joined
import Derived.Stop.LaidErr
import Derived.Lay
import Derived.Shelf.Vars
set_option linter.all false
set_option maxRecDepth 100000
/- The statement FnTopCardSaid: for every input that can be read the law FnTop returns true and leaves its arguments as_ they were. No further condition. -/
namespace Go.Proofs.YtbjbellffaenaaaGreatDoor
open Go.ChangeShapes Go.WideShapes Go.ChangeAt Go.RowKit Go.Deep
namespace fnTop
theorem own:ownKnob Tryz.prog.godebug=none:=by kernel_rfl
theorem laidOut:laidOutB Tryz.prog=true:=by kernel_rfl
theorem gTab : Tryz.prog.globalNamed "internal/strconv.uint64pow10" = some 5 := by kernel_rfl
theorem tTab:(Tryz.prog.globals[5]?).map (·.type)=some 376:=by kernel_rfl
theorem uTab:Tryz.prog.underlying 376=some (.array 20 284):=by kernel_rfl
theorem uEl:Tryz.prog.underlying 284=some (.int .u64):=by kernel_rfl
theorem cEl:Tryz.prog.cellsOf 284=1:=by kernel_rfl
theorem cTab:Tryz.prog.cellsOf 376=20:=by kernel_rfl
abbrev laid3:List (String×DataW Unit):=Rows.fnTopRow.laid
theorem laid_iface{P:Program}{W:World}{n nm:String}{d:DataW Unit}{r:List (String×DataW Unit)}{g:Nat}{ti:TypeId}{ms:Array (String×TypeId)}
 (h:laidMet P ((n,.iface nm d)::r) W) (hg:P.globalNamed n=some g) (ht:(P.globals[g]?).map (·.type)=some ti) (hi:P.underlying ti=some (.interface ms)):∃u v,W.cell? ⟨g,0,none⟩=some (.iface u v):=by
 obtain⟨ps,⟨g0,t0,cs0,f0,p0,q0,hg0,ht0,hv0,hd0,_,e0⟩,_,_⟩:=h
 obtain rfl:=Option.some.inj (hg.symm.trans hg0)
 obtain rfl:=Option.some.inj (ht.symm.trans ht0)
 obtain⟨f1,u,v,e,_⟩:=iface_of_trod hi hd0
 obtain⟨l⟩:=cs0
 simp only at e
 subst e
 exact⟨u,v,by simpa using World.var?_cell hg hv0 0⟩
theorem lt_cell{W:World}{g:Nat}{v:Value}(h:W.cell? ⟨g,0,none⟩=some v):g<W.heap.size:=by
 rcases Nat.lt_or_ge g W.heap.size with h'|h'
 ·exact h'
 ·simp[World.cell?,Array.getElem?_eq_none h']at h
theorem tabF_of{W:World}(hsh:W.ShapedOpen Tryz.prog)(h:laidMetH Tryz.prog laid3 W):TabF W:=by
 rw[MakeChecks.laidMetH_plain _ _ _ (by kernel_rfl)]at h
 have h2:=laidMet.tail (laidMet.tail h)
 have h3:=laidMet.tail (laidMet.tail h2)
 have h4:=laidMet.tail h3
 exact⟨Lib.tabIs_of_head (zs:=Lib.pow10Tab) gTab tTab uTab uEl cEl cTab h2,
  cell_of_shapedOpen_int (P:=Tryz.prog) (g:=0) (t:=3) (zero:=#[.int .i64 0]) hsh (of_decide_eq_true (by kernel_rfl)) (by kernel_rfl) rfl (by kernel_rfl) (by kernel_rfl) Tryz.underlying3,
  laid_iface (g:=3) (ti:=116) h4 (by kernel_rfl) (by kernel_rfl) Tryz.underlying116,
  laid_iface (g:=4) (ti:=116) h3 (by kernel_rfl) (by kernel_rfl) Tryz.underlying116⟩
theorem wrap{H:Type}{enc:TypeId×Value→H}{a:Assume}{C:Checked}{os:Os}{f:FuncId}{fn:Func}{s:ChangeSpec}{conds:List PathCond}{apart fresh handsOn again:Bool}{X:World→Array Value→Prop}
 (hX:∀(w w':World) (args:Array Value),w.heap=w'.heap→X w args→X w' args) (own:ownKnob C.prog.godebug=none) (started:os.Started) (noInit:C.prog.inits.idxOf? f=none) (hfn:C.prog.funcs[f]?=some fn)
 (witness:∃(w:World) (tape:Tape) (i:Input),w.os=os∧(w.forCall tape i).Shaped C.prog∧i.vars=[]∧Input.okWide C.prog (w.forCall tape i) .any w.heap.size f i∧
  ((s.pre enc C.prog fn conds apart (w.forCall tape i).memory i.args∧X (w.forCall tape i).memory i.args)∧sizedMet enc C.prog fn (OpenSpec.ofChange s) apart (w.forCall tape i).memory i.args)∧a.holds C.prog (lone (Frame.enter C.prog f i.args .normal) [] (w.forCall tape i)))
 (walk:∀(W:World) (base:Nat) (args:Array Value) (ds gs:List (DataW H)) (before:List MemPlace),(∀(j:Nat) t v,fn.params[j]?=some t→args[j]?=some v→Value.okWide C.prog W .any base t v)→
  DataW.Whole enc C.prog fn.params.toList s.vars apart W args.toList ds gs before→X W args→W.ShapedOpen C.prog→
  Calls C.prog f args W fun e W'=>∃v,e=.returned v∧s.post enc C.prog fn apart fresh handsOn again W args v W'):
 ReturnsInHanded a C os f .any (fun w args=>(s.pre enc C.prog fn conds apart w args∧X w args)∧sizedMet enc C.prog fn (OpenSpec.ofChange s) apart w args) (s.post enc C.prog fn apart fresh handsOn again):=by
 refine returnsInHanded_of_calls own started noInit witness fun w tape i _ hsh _ hok hpre _=>?_
 obtain⟨_,_,_,fn',hfn',_,_,_,_,hval⟩:=hok
 obtain rfl:fn'=fn:=Option.some.inj (hfn'.symm.trans hfn)
 obtain⟨⟨⟨ds,gs,before,hw,_⟩,hx⟩,_⟩:=hpre
 refine(walk (w.forCall tape i) w.heap.size i.args ds gs before hval (DataW.Whole.of_heap (w':=w.forCall tape i) (by rfl) hw) (hX _ _ _ (by rfl) hx) hsh).mono fun e W' ⟨v,he,hp⟩=>?_
 subst he
 exact ChangeSpec.post_blind hp
theorem lay_met(os:Os)(args:Array Value):laidMetH Tryz.prog laid3 ((World.laidAll Tryz.prog os laid3).forCall (fun _ _=>0) ⟨#[],args,[]⟩).memory:=by
 rw[MakeChecks.laidMetH_plain _ _ _ (by kernel_rfl)]
 exact laidMet_laidAll _ (by kernel_rfl) (by kernel_rfl)
theorem lifted(os:Os)(started:os.Started)(H:Type)(enc:TypeId×Value→H):
 ReturnsInHanded {} Tryz.checked os 3 .any (fun w args=>(Rows.fnTopSpec.pre enc Tryz.prog Tryz.f3 [] false w args∧laidMetH Tryz.prog laid3 w)∧sizedMet enc Tryz.prog Tryz.f3 (OpenSpec.ofChange Rows.fnTopSpec) false w args) (Rows.fnTopSpec.post enc Tryz.prog Tryz.f3 false true false false):=by
 refine wrap (C:=Tryz.checked) (X:=fun w _=>laidMetH Tryz.prog laid3 w) (fun _ _ _ hh h=>h.of_heap hh) own started (by kernel_rfl) Tryz.func3
  (ChangeSpec.witness_shaped (enc:=enc) (C:=Tryz.checked) (os:=os) (X:=fun w _=>laidMetH Tryz.prog laid3 w) false (World.laidAll Tryz.prog os laid3) #[.slice none 0 0] 8 (World.laidAll_os _ _ _) (World.shaped_of_ZipB (by kernel_rfl) (by kernel_rfl)) (by kernel_rfl) (by kernel_rfl) (by kernel_rfl) (lay_met os _)) ?_
 intro W base args ds gs before hval0 hW hL hsh
 have hval:∀(j:Nat) t v,Tryz.f3.params[j]?=some t→args[j]?=some v→Value.okWide Tryz.prog W .any base t v:=hval0
 have hW':=hW
 obtain⟨p,q,hA0,hV,rfl,hfz,hnd⟩:=hW
 have hA:DataW.TrodAll enc Tryz.prog W 0 (fun _=>true) true Tryz.f3.params.toList args.toList ds p:=hA0
 rw[Tryz.params3]at hA hval
 obtain⟨v0,vs0,d0,ds0,p0,q0,hargs,rfl,rfl,h0,r0⟩:=trodAll_cons hA
 obtain⟨rfl,rfl,rfl⟩:=trodAll_nil r0
 obtain rfl:args=#[v0]:=by cases args;simp_all
 obtain⟨rfl,rfl⟩:=trodVars_none hV
 have k0:=h0
 have lt0:∀x∈p0,x.block<W.heap.size:=by obtain⟨m,hm⟩:=k0;exact DataW.trod_lt m _ _ _ hm
 obtain⟨A0,n0,c0,rfl⟩:=okWide_slice Tryz.underlying22 (hval 0 22 v0 rfl rfl)
 obtain⟨x0,hx0,ok0⟩:∃a:List YB8,Reads W [.sl (a.map Zl)] [.slice A0 n0 c0]∧(a.length≤maxLen∧∀y∈a,0≤y.v∧y.v≤255):=by obtain⟨fuel,hf⟩:=h0;exact decP_slice Tryz.underlying22 (by rw[cells_b8];decide) decP_b8 hf
 clear hA0 hval0
 refine(CallOk.run (ok_klaws_FnTop x0 (top12 x0 ok0.2)) (tab_of_F (tabF_of hsh hL)) rfl (vs:=#[.slice A0 n0 c0]) (w:=W) (fun i p hp=>?_)).mono fun e W' ⟨he,bel⟩=>?_
 ·match i,hp with
  |0,hp=>obtain rfl:=Option.some.inj hp;exact⟨_,rfl,reads_rep1 hx0⟩
  |n+1,hp=>simp at hp
 subst he
 exact⟨_,rfl,_,_,_,[],_,[],hW',trodAll_mk1 (shut_bool Tryz.underlying4 _),(trodAll_cons_mk (Below.trod laidOut (by kernel_rfl) (of_decide_eq_true (by kernel_rfl)) k0 bel lt0) trodAll_mk0),rfl,bel.frame _,fun h=>by cases h⟩
theorem over:Rows.FnTopSaid:=
 OpenClaim.holds_of_wide 3 Tryz.f3 rfl rfl rfl rfl rfl rfl rfl ⟨rfl,rfl,rfl,rfl,rfl⟩ rfl rfl rfl rfl rfl (by kernel_rfl) Tryz.func3 joined
  (of_decide_eq_true (by kernel_rfl)) (by unfold Func.isWrapper;first|(rw[if_pos (by decide +kernel)];kernel_rfl) |(rw[if_neg (by decide +kernel)];exact⟨rfl,rfl⟩))
  (fun os started H enc _=>lifted os started H enc)
theorem p1:OpenClaim.wfByText (OpenSpec.ofChange Rows.fnTopSpec) Rows.fnTopRow=true:=by kernel_rfl
theorem p2:Tryz.pinned.checked.prog.mainIs=some (Rows.fnTopCard.stood.harness.1,Rows.fnTopCard.stood.harness.2.toList):=by kernel_rfl
theorem p3 : Tryz.prog.funcNamed "loop.example/g03014/laws.FnTop" = some 3 := by kernel_rfl
theorem p4:true=Tryz.pinned.checked.prog.looks []:=by kernel_rfl
theorem p5:([22].all fun u=>!Tryz.prog.wantsStandIn u)=true:=by kernel_rfl
theorem p6:false=Rows.fnTopRow.goesBy Tryz.pinned.checked.prog:=goes_by goes0 rfl
theorem p7(f:FuncId)(fn:Func)(hf:Tryz.pinned.checked.prog.funcNamed Rows.fnTopRow.func=some f)(hfn:Tryz.pinned.checked.prog.funcs[f]?=some fn):true=Tryz.pinned.checked.prog.looks []∧∀(j:Nat) (t:TypeId),fn.params[j]?=some t→Tryz.pinned.checked.prog.wantsStandIn t=false:=by
 obtain rfl:3=f:=Option.some.inj (p3.symm.trans hf)
 obtain rfl:Tryz.f3=fn:=Option.some.inj (Tryz.func3.symm.trans hfn)
 refine⟨p4,fun j t ht=>?_⟩
 rw[Tryz.params3]at ht
 have hm:t∈[22]:=by simpa using Array.mem_of_getElem? ht
 exact(show Tryz.prog.wantsStandIn t=false by simpa using List.all_eq_true.1 p5 t hm)
theorem proved:Rows.FnTopCardSaid:=
 Claim7.holds_tied_plain_at .later [] [.data,.data,.data,.data,.sentinel,.sentinel,.pinned] true Rows.fnTopCard.stood.harness true
  over (fun _ h=>by cases h) p1 (fun _ h=>by cases h) fnTop_row_tie rfl ⟨rfl,rfl⟩ p2 rfl p7 p6
#print axioms proved
end fnTop
end Go.Proofs.YtbjbellffaenaaaGreatDoor
