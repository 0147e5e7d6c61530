/- A part of the proof of the statement in the last file of this claim: texts on the language of the program and on its functions. No condition. -/
import Derived.Test.YtkfbakhnpfmfmaaGreatDoorCFnActRead1
import Derived.Laws.BytesArg
set_option linter.unusedVariables false
set_option linter.unusedSimpArgs false
set_option linter.unusedSectionVars false
namespace Go.Proofs.YtkfbakhnpfmfmaaGreatDoor
set_option maxRecDepth 10000
open Go.RowKit
def isC1:PV→Bool
 | .v _ | .ud | .un | .sl _ | .rp _=>true
 | _=>false
def isC:PV→Bool
 | .fn _ cs=>cs.all isC1
 | p=>isC1 p
def isF:PV→Bool
 | .v _ | .ud | .un | .ms _ | .be ..=>true
 | _=>false
def E1 (S:Nat→Prop) (β:Nat→Option Blk) (n:Nat) (ω:Nat→Key→Prop:=fun _ _=>False):Env:={ S:=S,β:=β,used:=fun l=>l<n,ω:=ω }
def Zd1 (P:Program) (f:FuncId) (args:List PV) (m0:Mem) (r:PV) (m1:Mem):Prop:=
 ∀ (S:Nat→Prop) (β:Nat→Option Blk) (w:World) (vs:Array Value) (ω:Nat→Key→Prop),Ok w (own0 β) (E1 S β m0.length ω) w m0→vs.size=args.length→(∀ (i:Nat) (p:PV),args[i]?=some p→∃ x,vs[i]?=some x∧Rep w (E1 S β m0.length ω) p x)→
  Calls P f vs w fun e w'=>∃ v E',e=.returned v∧Ok w (own0 β) E' w' m1∧(∀ b,S b→E'.S b)∧(∀ b,E'.S b→S b∨w.heap.size≤b∨own0 β b)∧((∀ l B,l<m0.length→E'.β l=some B→β l=some B)∧∀ b q,E'.ω b q→ω b q∨w.heap.size≤b∨own0 β b)∧Rep w' E' r v
theorem Rep.toω {w:World} {S:Nat→Prop} {β:Nat→Option Blk} {n:Nat} {ω ω':Nat→Key→Prop} {p:PV} {x:Value} (h:Rep w (E1 S β n ω) p x):Rep w (E1 S β n ω') p x:=Rep.same (E:=E1 S β n ω) (E':=E1 S β n ω') (fun _ h=>h) (fun _ _ _ h=>h) (fun _ h=>h) h
abbrev CallOk (P:Program) (f:FuncId) (args:List PV) (r:PV) (m':Mem):Prop:=Zd1 P f args [] r m'
section
set_option linter.unusedVariables false
set_option linter.unusedSimpArgs false
variable {w:World} {O:Nat→Prop} {E:Env} {w0:World} {m:Mem} {P:Program}
def Zqd (P:Program) (E:Env) (w:World) (a:Act) (o:Oper) (p:PV):Prop:=
 ∃ x,(execOp a.eval o).run P w=.ok (.value x) w∧Rep w E p x
def Zkr:List (List PV)→Option (List Int)
 | []=>some []
 | [.v (.int .u8 n)]::rest=>(Zkr rest).map (n::·)
 | _=>none
theorem Zks:∀ {es:List (List PV)} {ns:List Int},Zkr es=some ns→ns.length=es.length∧∀ i,i<es.length→es[i]?=some [.v (.int .u8 (ns.getD i 0))]
 | [],ns,h=>by simp only [Zkr,Option.some.injEq] at h; subst h; simp
 | e::es,ns,h=>by
  unfold Zkr at h
  split at h
  ·cases (by assumption:(e::es)=[])
  ·rename_i n rest heq
   simp only [List.cons.injEq] at heq
   obtain ⟨rfl,rfl⟩:=heq
   obtain ⟨ms,hms,rfl⟩:=Option.map_eq_some_iff.1 h
   obtain ⟨h1,h2⟩:=Zks hms
   refine ⟨by simp [h1],fun i hi=>?_⟩
   cases i with
   | zero=>rfl
   | succ i=>simpa using h2 i (by simpa using hi)
  ·cases h
def ZgC (P:Program) (m:Mem) (s d:TypeId) (x:PV) (K:PV→Prop):Prop:=
 match x with
 | .ms l=>match P.underlying s,P.underlying d with
  | some (.slice e),some .string=>P.underlying e=some (.int .u8)∧live m l fun mb=>mb.k=1∧match Zkr mb.es with
   | some ns=>K (.v (.string (strOfNums ns)))
   | none=>False
  | _,_=>False
 | x=>ZnN P s d x K
theorem Zmv (hk:Ok w0 O E w m) {s d:TypeId} {p:PV} {x:Value} (hx:Rep w E p x) {K:PV→Prop} (h:ZgC P m s d p K):∃ r v,K r∧(convert s d x).run P w=.ok v w∧Rep w E r v:=by
 unfold ZgC at h
 split at h
 ·rename_i l
  split at h
  ·rename_i e hs hd
   obtain ⟨he,h⟩:=h
   obtain ⟨mb,hm,hk1,h⟩:=Zcy h
   split at h
   ·rename_i ns hns
    obtain ⟨B,hB,hb,rfl⟩:=hx.ms_inv hk hm
    obtain ⟨hl,hget⟩:=Zks hns
    cases hz:B.z with
    | true=>
     have h0:=hb.nil hz
     rw [h0] at hns
     simp only [Zkr,Option.some.injEq] at hns
     subst hns
     refine ⟨_,.string (strOfNums []),h,?_,.c (.v _ rfl)⟩
     rw [show B.sv=.slice none 0 0 by simp [Blk.sv,hz]]
     exact run_convert_bytes_nil w s e hs he 0 0 d hd
    | false=>
     obtain ⟨cells,m1,m2,m3⟩:=hb.mem hz
     have hk':B.k=1:=hb.k.trans hk1
     refine ⟨_,.string (strOfNums ns),h,?_,.c (.v _ rfl)⟩
     rw [show B.sv=.slice (some ⟨B.b,0,none⟩) B.n B.c by simp [Blk.sv,hz]]
     refine run_convert_bytes_arg w s e hs he B.b 0 B.n B.c ns (by rw [hl,hb.n]) (fun i hi=>?_) d hd
     rw [hb.n] at hi
     obtain ⟨y,y1,_,y3⟩:=m3 i _ 0 _ (hget i hi) rfl
     rw [hk'] at y1
     rw [cell_of_row w B.b _ cells B.T (0,0) m1,Nat.zero_add]
     rw [y3.v_inv.1] at y1
     simpa using y1
   ·exact h.elim
  ·exact h.elim
 ·obtain ⟨r,v,h1,h2,h3⟩:=ZnO hx h
  exact ⟨r,v,h1,h2 w,h3⟩
def Zfx (mx:Bool) (ps:List PV) (K:PV→Prop):Prop:=
 match ps with
 | [.v (.int k a),.v (.int k' b)]=>if mx then K (.v (.int k (if b > a then b else a))) else K (.v (.int k (if b<a then b else a)))
 | _=>False
def popR (P:Program) (o:Op) (t:List PV) (m:Mem) (K:PV→Prop):Prop:=
 match o with
 | .move x=>K (evP t x)
 | .assign x=>K (evP t x)
 | .pick c x y=>match evP t c with
  | .v (.bool b)=>K (if b then evP t x else evP t y)
  | _=>False
 | .load T a=>Zg1 P T (rdp m (evP t a)) K
 | .nilCheck x=>pNil m (evP t x) K
 | .binOp op T x y _=>pBin P op T (evP t x) (evP t y) K
 | .unOp op _ x=>pUn op (evP t x) K
 | .convert s d x=>ZgC P m s d (evP t x) K
 | .makeFunc fn first cs=>match fn,first.toList with
  | .func f,[]=>K (.fn f (cs.toList.map (evP t)))
  | _,_=>False
 | .slice T x lo hi mx=>match mx with
  | none=>ZdK P m T (evP t x) (lo.map (evP t)) (hi.map (evP t)) K
  | some _=>False
 | .fieldAddr S x f=>ZcV P m S (evP t x) f K
 | .field T x f=>ZiC P T (evP t x) f K
 | .indexAddr T x i=>ZY P m T (evP t x) (evP t i) K
 | .index T x i=>ZgD P T (evP t x) (evP t i) K
 | .extract x i=>pExt i (evP t x) K
 | .build T ps=>ZiB P T (ps.toList.map fun q=>(q.1,evP t q.2)) K
 | .call c=>match c.callee with
  | .builtin .len=>match c.args.toList,c.argTypes.toList with
   | [x],[T]=>pLen P m T (evP t x) K
   | _,_=>False
  | .builtin .min=>Zfx false (c.args.toList.map (evP t)) K
  | .builtin .max=>Zfx true (c.args.toList.map (evP t)) K
  | _=>False
 | _=>False
theorem ZtM {s:Sem Value} {x:Value} {w w':World} (h:s.run P w=.ok x w'):(do pure (Next.value (← s)):Sem Next).run P w=.ok (.value x) w':=by
 simp only [Sem.run_bind,h,Result.andThen_ok,Sem.run_pure]
theorem ZlR {α:Type} {a:Array α} {x:α} (h:a.toList=[x]):a=#[x]:=Array.ext' (by simpa using h)
theorem Zhx {α:Type} {a:Array α} {x y:α} (h:a.toList=[x,y]):a=#[x,y]:=Array.ext' (by simpa using h)
theorem ZpZ (hk:Ok w0 O E w m) {t:List PV} {a:Act} (ht:RepT w E t a.tmps) {o:Oper} {K:PV→Prop} (h:popR P o.op t m K):∃ p,K p∧Zqd P E w a o p:=by
 have ev:=Zjm ht
 have fin:∀ {s:Sem Value},(∃ r v,K r∧(∀ w',s.run P w'=.ok v w')∧Rep w E r v)→(execOp a.eval o=do pure (Next.value (← s)))→∃ p,K p∧Zqd P E w a o p:=by
  intro s ⟨r,v,hK,hrun,hrep⟩ he
  exact ⟨r,hK,v,by rw [he]; exact ZtM (hrun w),hrep⟩
 unfold popR at h
 split at h
 ·rename_i x ho
  exact ⟨_,h,a.eval x,by simp [execOp,ho],ev x⟩
 ·rename_i x ho
  exact ⟨_,h,a.eval x,by simp [execOp,ho],ev x⟩
 ·rename_i c x y ho
  split at h
  ·rename_i b hc
   have h1:=ev c
   rw [hc] at h1
   have h2:=h1.v_inv.1
   refine ⟨_,h,if b then a.eval x else a.eval y,by cases b <;> simp [execOp,ho,h2,asBool],?_⟩
   cases b
   ·exact ev y
   ·exact ev x
  ·exact h.elim
 ·rename_i T x ho
  cases hp:rdp m (evP t x) with
  | none=>rw [hp] at h; unfold Zg1 at h; split at h <;> first | exact h.elim | simp_all
  | some cs=>
   rw [hp] at h
   obtain ⟨b,off,hx,hb,hc⟩:=ZrZ hk (ev x) hp
   obtain ⟨p,v,hK,hrun,hrep⟩:=Zmy h hb hc
   exact ⟨p,hK,v,by simp only [execOp,ho,hx]; exact ZtM (by simp only [Instr.loadAt,Instr.sureAddr,Sem.run_bind,Sem.run_pure,Result.andThen_ok]; exact hrun w (Up.rfl' w)),hrep⟩
 ·rename_i x ho
  unfold pNil at h
  split at h
  ·rename_i l i oo hx
   obtain ⟨mb,hm,hK⟩:=Zcy h
   have h1:=ev x
   rw [hx] at h1
   obtain ⟨B,hB,hb,hz,e⟩:=h1.be_inv hk hm
   exact ⟨_,hK,a.eval x,by simp [execOp,ho,e],h1⟩
  ·rename_i cs hx
   have h1:=ev x
   rw [hx] at h1
   have h2:∃ b off,a.eval x=.pointer (some ⟨b,off,none⟩):=by
    generalize a.eval x=v at h1
    cases h1.rp_inv with
    | rp _ b off=>exact ⟨b,off,rfl⟩
   obtain ⟨b,off,h2⟩:=h2
   exact ⟨_,h,a.eval x,by simp [execOp,ho,h2],h1⟩
  ·exact h.elim
 ·rename_i op T x y Ty ho
  exact fin (ZpD (ox:=x) (oy:=y) (ev x) (ev y) h) (by simp only [execOp,ho])
 ·rename_i op T x ho
  exact fin (Zrx (ev x) h) (by simp only [execOp,ho])
 ·rename_i s d x ho
  obtain ⟨r,v,hK,hrun,hrep⟩:=Zmv hk (ev x) h
  exact ⟨r,hK,v,by simp only [execOp,ho]; exact ZtM hrun,hrep⟩
 ·rename_i fn first cs ho
  split at h
  ·rename_i f hf
   have hfe:first=#[]:=Array.ext' (by simpa using hf)
   subst hfe
   refine ⟨_,h,.func (.func f) #[] (cs.map a.eval),by simp [execOp,ho,Instr.makeFunc],.fn f _ _ (by simp) fun j p x hp hx=>?_⟩
   rw [List.getElem?_map] at hp
   rw [Array.getElem?_map] at hx
   cases hq:cs[j]? with
   | none=>simp [hq] at hx
   | some q=>
    rw [Array.getElem?_toList,hq] at hp
    rw [hq] at hx
    simp only [Option.map_some,Option.some.injEq] at hp hx
    rw [← hp,← hx]
    exact ev q
  ·exact h.elim
 ·rename_i T x lo hi mx ho
  split at h
  ·refine fin (ZmA hk (vlo:=lo.map a.eval) (vhi:=hi.map a.eval) (ev x) ?_ ?_ ?_ ?_ h) (by simp only [execOp,ho,Option.map_none])
   ·intro p hp; cases lo with
    | none=>cases hp
    | some z=>simp only [Option.map_some,Option.some.injEq] at hp; exact ⟨a.eval z,rfl,hp ▸ ev z⟩
   ·intro hp; cases lo with
    | none=>rfl
    | some z=>cases hp
   ·intro p hp; cases hi with
    | none=>cases hp
    | some z=>simp only [Option.map_some,Option.some.injEq] at hp; exact ⟨a.eval z,rfl,hp ▸ ev z⟩
   ·intro hp; cases hi with
    | none=>rfl
    | some z=>cases hp
  ·exact h.elim
 ·rename_i S x f ho
  exact fin (ZiN hk (ev x) h) (by simp only [execOp,ho])
 ·rename_i T x f ho
  exact fin (Zmw (ev x) h) (by simp only [execOp,ho])
 ·rename_i T x i ho
  exact fin (ZiP hk (ev x) (ev i) h) (by simp only [execOp,ho])
 ·rename_i T x i ho
  exact fin (Zmx (ev x) (ev i) h) (by simp only [execOp,ho])
 ·rename_i x i ho
  exact fin (ZpF (ev x) h) (by simp only [execOp,ho])
 ·rename_i T ps ho
  refine fin (Zmt (vs:=ps.map fun (i,x)=>(i,a.eval x)) (by simp) (fun j i p hj=>?_) h) (by simp only [execOp,ho])
  rw [List.getElem?_map] at hj
  cases hq:ps.toList[j]? with
  | none=>rw [hq] at hj; cases hj
  | some q=>
   rw [hq] at hj
   simp only [Option.map_some,Option.some.injEq,Prod.mk.injEq] at hj
   obtain ⟨rfl,rfl⟩:=hj
   rw [Array.getElem?_toList] at hq
   exact ⟨a.eval q.2,by simp [hq],ev q.2⟩
 ·rename_i c ho
  split at h
  ·rename_i hc
   split at h
   ·rename_i x T hx hT
    obtain ⟨callee,args,argTypes⟩:=c
    have ha:=ZlR hx
    have hTs:=ZlR hT
    simp only at hc ha hTs
    subst hc ha hTs
    obtain ⟨r,v,hK,hrun,hrep⟩:=ZpH (ty:=o.type) hk (ev x) h
    exact ⟨r,hK,v,by simp [execOp,ho,resolve,invoke,builtin,hrun],hrep⟩
   ·exact h.elim
  ·rename_i hc
   unfold Zfx at h
   split at h
   ·rename_i k a1 k' b1 hargs
    obtain ⟨callee,args,argTypes⟩:=c
    simp only at hc hargs
    subst hc
    obtain ⟨x,l,e1,hx,e2⟩:=List.map_eq_cons_iff.1 hargs
    obtain ⟨y,l2,e3,hy,e4⟩:=List.map_eq_cons_iff.1 e2
    rw [List.map_eq_nil_iff.1 e4] at e3
    rw [e3] at e1
    have ha:=Zhx e1
    subst ha
    have vx:=ev x; rw [hx] at vx
    have vy:=ev y; rw [hy] at vy
    have vx:=vx.v_inv.1
    have vy:=vy.v_inv.1
    exact ⟨_,h,.int k (if b1<a1 then b1 else a1),by simp [execOp,ho,resolve,invoke,builtin,vx,vy,run_min_int2],.c (.v _ rfl)⟩
   ·exact h.elim
  ·rename_i hc
   unfold Zfx at h
   split at h
   ·rename_i k a1 k' b1 hargs
    obtain ⟨callee,args,argTypes⟩:=c
    simp only at hc hargs
    subst hc
    obtain ⟨x,l,e1,hx,e2⟩:=List.map_eq_cons_iff.1 hargs
    obtain ⟨y,l2,e3,hy,e4⟩:=List.map_eq_cons_iff.1 e2
    rw [List.map_eq_nil_iff.1 e4] at e3
    rw [e3] at e1
    have ha:=Zhx e1
    subst ha
    have vx:=ev x; rw [hx] at vx
    have vy:=ev y; rw [hy] at vy
    have vx:=vx.v_inv.1
    have vy:=vy.v_inv.1
    exact ⟨_,h,.int k (if b1 > a1 then b1 else a1),by simp [execOp,ho,resolve,invoke,builtin,vx,vy,run_max_int2],.c (.v _ rfl)⟩
   ·exact h.elim
  ·exact h.elim
 ·exact h.elim
def ZhU (m:Mem) (p:PV) (K:PV→Prop):Prop:=
 match p with
 | .ms l=>live m l fun mb=>K (@ite PV (∀ cs∈mb.es,∀ q∈cs,isC q=true) (Classical.propDecidable _) (.sl mb.es) .un)
 | .ss l a b=>live m l fun mb=>(∀ cs∈mb.es,∀ q∈cs,isC q=true)∧K (.sl ((mb.es.drop a).take (b-a)))
 | .v x=>K (.v x)
 | .sl es=>K (.sl es)
 | .rp cs=>K (.rp cs)
 | .un=>K .un
 | .ud=>K .ud
 | _=>False
def ZiQ (m:Mem):List PV→(List PV→Prop)→Prop
 | [],K=>K []
 | c::cs,K=>ZhU m c fun c'=>ZiQ m cs fun cs'=>K (c'::cs')
def ZiR (m:Mem) (p:PV) (K:PV→Prop):Prop:=
 match p with
 | .ag cs=>ZiQ m cs fun cs'=>K (.ag cs')
 | p=>ZhU m p K
def Zio (m:Mem):List PV→(List PV→Prop)→Prop
 | [],K=>K []
 | c::cs,K=>ZiR m c fun c'=>Zio m cs fun cs'=>K (c'::cs')
def Sall (E:Env) (b:Nat):Prop:=E.S b∨own0 E.β b
theorem RepC.all {S S':Nat→Prop} {p:PV} {x:Value} (h:RepC w S p x) (hS:∀ b,S b→S' b):RepC w S' p x:=h.ext hS fun _ _ _=>rfl
theorem Rep.toC1 {p:PV} {x:Value} (h:Rep w E p x) (hc:isC1 p=true):RepC w E.S p x:=by
 cases h with
 | c h=>exact h
 | _=>simp [isC1] at hc
theorem Rep.toC {p:PV} {x:Value} (h:Rep w E p x) (hc:isC p=true):RepC w E.S p x:=by
 cases h with
 | c h=>exact h
 | fn f cs vs hl hr=>
  simp only [isC,List.all_eq_true] at hc
  exact .fn f cs vs hl fun j p x hp hx=>(hr j p x hp hx).toC1 (hc p (List.mem_of_getElem? hp))
 | _=>simp [isC,isC1] at hc
theorem Zlv {B:Blk} {l:Nat} {mb:MB} (hB:E.β l=some B) (hb:Zdc w E mb B) (hcl:∀ cs∈mb.es,∀ q∈cs,isC q=true) {S:Nat→Prop} (hS:∀ b,E.S b→S b) (hSB:B.z=false→S B.b) {a b:Nat} (hab:a≤b) (hbn:b≤B.n) {A:Option Addr} {c:Nat}
 (hA:a<b→B.z=false∧A=some ⟨B.b,a*B.k,none⟩∧b-a≤c∧c≤maxLen):RepC w S (.sl ((mb.es.drop a).take (b-a))) (.slice A (b-a) c):=by
 have hel:((mb.es.drop a).take (b-a)).length=b-a:=by rw [List.length_take,List.length_drop,← hb.n]; omega
 rcases Nat.lt_or_ge a b with hlt | hge
 ·obtain ⟨hz,rfl,hc1,hc2⟩:=hA hlt
  obtain ⟨cells,m1,m2,m3⟩:=hb.mem hz
  have get:∀ {i:Nat} {cs:List PV},((mb.es.drop a).take (b-a))[i]?=some cs→mb.es[a+i]?=some cs:=by
   intro i cs hi
   rw [List.getElem?_take] at hi
   split at hi
   ·rwa [List.getElem?_drop] at hi
   ·cases hi
  have hex:∀ ij:Nat × Nat,∃ u:Value,∀ cs p,mb.es[a+ij.1]?=some cs→cs[ij.2]?=some p→cells[(a+ij.1)*B.k+ij.2]?=some u∧u.oneCell'=true∧RepC w S p u:=by
   intro ⟨i,j⟩
   cases hi:mb.es[a+i]? with
   | none=>exact ⟨undef,fun cs p h=>by simp [hi] at h⟩
   | some cs=>
    cases hj:cs[j]? with
    | none=>exact ⟨undef,fun cs' p h h'=>by simp only [hi,Option.some.injEq] at h; subst h; simp [hj] at h'⟩
    | some p=>
     obtain ⟨u,u1,u2,u3⟩:=m3 _ cs j p hi hj
     refine ⟨u,fun cs' p' h h'=>?_⟩
     simp only [hi,Option.some.injEq] at h
     subst h
     simp only [hj,Option.some.injEq] at h'
     subst h'
     exact ⟨u1,u2,(u3.toC (hcl cs (List.mem_of_getElem? hi) p (List.mem_of_getElem? hj))).all hS⟩
  obtain ⟨f,hf⟩:=Classical.axiomOfChoice hex
  have key:=RepC.sl (w:=w) (S:=S) ((mb.es.drop a).take (b-a)) B.b (a*B.k) B.k c (fun i j=>f (i,j)) (hSB hz) hb.pos (by rw [hel]; exact hc1) hc2 (fun i cs hi=>hb.es _ cs (get hi))
   (fun i cs j p hi hj=>by
    have:=(hf (i,j) cs p (get hi) hj).1
    rw [cell_of_row w B.b _ cells B.T (0,0) m1,← this]
    congr 1
    simp only [Nat.add_mul]) (fun i cs j p hi hj=>(hf (i,j) cs p (get hi) hj).2.1) fun i cs j p hi hj=>(hf (i,j) cs p (get hi) hj).2.2
  rwa [hel] at key
 ·have hba:b-a=0:=by omega
  rw [hba,List.take_zero]
  exact .nil _ _
theorem Zv3 {B:Blk} {mb:MB} (hb:Zdc w E mb B):∃ A c,B.sv=.slice A B.n c∧(0<B.n→B.z=false∧A=some ⟨B.b,0,none⟩∧B.n≤c∧c≤maxLen):=by
 cases hz:B.z with
 | true=>exact ⟨none,0,by simp [Blk.sv,hz,hb.n,hb.nil hz],fun h=>by rw [hb.n,hb.nil hz] at h; simp at h⟩
 | false=>exact ⟨_,_,by simp [Blk.sv,hz],fun _=>⟨rfl,rfl,hb.nc,hb.cm⟩⟩
theorem Zr6 {B:Blk} {l:Nat} {mb:MB} (hB:E.β l=some B) (hb:Zdc w E mb B) (hcl:∀ cs∈mb.es,∀ q∈cs,isC q=true) {S:Nat→Prop} (hS:∀ b,E.S b→S b) (hSB:B.z=false→S B.b):RepC w S (.sl mb.es) B.sv:=by
 obtain ⟨A,c,hsv,hA⟩:=Zv3 hb
 have:=Zlv hB hb hcl hS hSB (a:=0) (b:=B.n) (Nat.zero_le _) (Nat.le_refl _) (A:=A) (c:=c) (by simpa using hA)
 rw [hsv]
 simpa [hb.n] using this
theorem Zm2 (hk:Ok w0 O E w m) {p:PV} {x:Value} (hx:Rep w E p x) {K:PV→Prop} (h:ZhU m p K):∃ q,K q∧RepC w (Sall E) q x∧isC q=true:=by
 unfold ZhU at h
 split at h
 ·rename_i l
  obtain ⟨mb,hm,hK⟩:=Zcy h
  by_cases hcl:∀ cs∈mb.es,∀ q∈cs,isC q=true
  ·rw [if_pos hcl] at hK
   obtain ⟨B,hB,hb,rfl⟩:=hx.ms_inv hk hm
   exact ⟨_,hK,Zr6 hB hb hcl (fun b hb=>.inl hb) fun hz=>.inr ⟨l,B,hB,hz,rfl⟩,rfl⟩
  ·rw [if_neg hcl] at hK
   exact ⟨_,hK,.un x,rfl⟩
 ·rename_i l a b
  obtain ⟨mb,hm,hcl,hK⟩:=Zcy h
  obtain ⟨B,hB,hb,A,c,rfl,hab,hbn,hA⟩:=hx.ss_inv hk hm
  exact ⟨_,hK,Zlv hB hb hcl (fun b hb=>.inl hb) (fun hz=>.inr ⟨l,B,hB,hz,rfl⟩) hab hbn hA,rfl⟩
 ·exact ⟨_,h,(hx.toC rfl).all fun b hb=>.inl hb,rfl⟩
 ·exact ⟨_,h,(hx.toC rfl).all fun b hb=>.inl hb,rfl⟩
 ·exact ⟨_,h,(hx.toC rfl).all fun b hb=>.inl hb,rfl⟩
 ·exact ⟨_,h,(hx.toC rfl).all fun b hb=>.inl hb,rfl⟩
 ·exact ⟨_,h,(hx.toC rfl).all fun b hb=>.inl hb,rfl⟩
 ·exact h.elim
def RepA (w:World) (S:Nat→Prop) (q:PV) (x:Value):Prop:=∀ β n ω,Rep w (E1 S β n ω) q x
theorem Zm3 (hk:Ok w0 O E w m):∀ (cs:List PV) (vs:List Value) (K:List PV→Prop),vs.length=cs.length→(∀ (j:Nat) (p:PV) (x:Value),cs[j]?=some p→vs[j]?=some x→Rep w E p x)→ZiQ m cs K→
 ∃ ds,K ds∧ds.length=cs.length∧∀ (j:Nat) (q:PV) (x:Value),ds[j]?=some q→vs[j]?=some x→RepC w (Sall E) q x
 | [],[],K,_,_,h=>⟨[],h,rfl,by simp⟩
 | [],_::_,_,hl,_,_=>by simp at hl
 | _::_,[],_,hl,_,_=>by simp at hl
 | c::cs,v::vs,K,hl,hr,h=>by
  obtain ⟨q,hK,hq,_⟩:=Zm2 hk (hr 0 c v rfl rfl) h
  obtain ⟨ds,hK',hdl,hd⟩:=Zm3 hk cs vs _ (by simpa using hl) (fun j p x hp hx=>hr (j+1) p x (by simpa using hp) (by simpa using hx)) hK
  refine ⟨q::ds,hK',by simp [hdl],fun j q' x hj hx=>?_⟩
  cases j with
  | zero=>simp only [List.getElem?_cons_zero,Option.some.injEq] at hj hx; subst hj hx; exact hq
  | succ j=>exact hd j q' x (by simpa using hj) (by simpa using hx)
theorem Zso (hk:Ok w0 O E w m) {p:PV} {x:Value} (hx:Rep w E p x) {K:PV→Prop} (h:ZiR m p K):∃ q,K q∧RepA w (Sall E) q x:=by
 unfold ZiR at h
 split at h
 ·rename_i cs
  obtain ⟨vs,rfl,hl,h1,hr⟩:=hx.ag_inv
  obtain ⟨ds,hK,hdl,hd⟩:=Zm3 hk cs vs.toList _ (by simpa using hl) (fun j p x hp hx=>hr j p x hp (by simpa using hx)) h
  exact ⟨_,hK,fun β n ω=>.ag ds vs (by rw [hl,hdl]) h1 fun j p x hp hx=>.c (hd j p x hp (by simpa using hx))⟩
 ·obtain ⟨q,hK,hq,_⟩:=Zm2 hk hx h
  exact ⟨q,hK,fun β n ω=>.c hq⟩
theorem Zm1 (hk:Ok w0 O E w m):∀ (cs:List PV) (vs:List Value) (K:List PV→Prop),vs.length=cs.length→(∀ (j:Nat) (p:PV) (x:Value),cs[j]?=some p→vs[j]?=some x→Rep w E p x)→Zio m cs K→
 ∃ ds,K ds∧ds.length=cs.length∧∀ (j:Nat) (q:PV) (x:Value),ds[j]?=some q→vs[j]?=some x→RepA w (Sall E) q x
 | [],[],K,_,_,h=>⟨[],h,rfl,by simp⟩
 | [],_::_,_,hl,_,_=>by simp at hl
 | _::_,[],_,hl,_,_=>by simp at hl
 | c::cs,v::vs,K,hl,hr,h=>by
  obtain ⟨q,hK,hq⟩:=Zso hk (hr 0 c v rfl rfl) h
  obtain ⟨ds,hK',hdl,hd⟩:=Zm1 hk cs vs _ (by simpa using hl) (fun j p x hp hx=>hr (j+1) p x (by simpa using hp) (by simpa using hx)) hK
  refine ⟨q::ds,hK',by simp [hdl],fun j q' x hj hx=>?_⟩
  cases j with
  | zero=>simp only [List.getElem?_cons_zero,Option.some.injEq] at hj hx; subst hj hx; exact hq
  | succ j=>exact hd j q' x (by simpa using hj) (by simpa using hx)
end
end Go.Proofs.YtkfbakhnpfmfmaaGreatDoor
namespace Go.Proofs.YtkfbakhnpfmfmaaGreatDoor
set_option maxRecDepth 10000
open Go.RowKit
set_option linter.unusedVariables false
set_option linter.unusedSimpArgs false
def ren1 (σ:Nat→Nat):PV→PV
 | .ms l=>.ms (σ l)
 | .ss l a b=>.ss (σ l) a b
 | .be l i o=>.be (σ l) i o
 | p=>p
def renC (σ:Nat→Nat):PV→PV
 | .fn f cs=>.fn f (cs.map (ren1 σ))
 | p=>ren1 σ p
def renA (σ:Nat→Nat):PV→PV
 | .ag cs=>.ag (cs.map (renC σ))
 | p=>renC σ p
def renV (σ:Nat→Nat):PV→PV
 | .tu vs=>.tu (vs.map (renA σ))
 | p=>renA σ p
def Zg3 (σ:Nat→Nat) (es:List (List PV)):List (List PV):=es.map (·.map (renC σ))
def Ze5 (σ:Nat→Nat) (mb:MB):MB:=⟨mb.T,mb.k,Zg3 σ mb.es⟩
def isR:PV→Bool
 | .ag _ | .tu _ | .fn _ _=>false
 | _=>true
def ZaL (flat:Bool):PV→Prop
 | .fn _ cs=>flat=false∧∀ c∈cs,isR c=true
 | p=>flat=true→isF p=true
def Zfh (flat:Bool):PV→Prop
 | .ag cs=>∀ c∈cs,ZaL flat c
 | .tu _=>False
 | p=>ZaL flat p
def Zfi (flat:Bool):PV→Prop
 | .tu vs=>∀ v∈vs,Zfh flat v
 | p=>Zfh flat p
theorem ZvR {σ:Nat→Nat} {p:PV} {es:List (List PV)} (h:renC σ p=.sl es):p=.sl es:=by
 unfold renC at h
 split at h
 ·cases h
 ·rename_i q _
  cases p <;> simp [ren1] at h ⊢ <;> exact h
theorem RepC.flat {w:World} {S S':Nat→Prop} {p:PV} {x:Value} (hF:isF p=true) (h:RepC w S p x):RepC w S' p x:=by
 cases h with
 | v x h=>exact .v x h
 | ud=>exact .ud
 | un x=>exact .un x
 | _=>simp [isF] at hF
section
variable {w':World} {E' E2:Env} {σ:Nat→Nat} {flat:Bool}
theorem Zpb (hβ:∀ l B,E'.used l→E2.β (σ l)=some B→E'.β l=some B) (hu:∀ l,E'.used l→E2.used (σ l)) (hS:∀ p x,(flat=true→isF p=true)→RepC w' E'.S p x→RepC w' E2.S p x) {p:PV} {x:Value}
 (h:Rep w' E' p x) (hp:isR p=true) (hG:flat=true→isF p=true):Rep w' E2 (ren1 σ p) x:=by
 cases h with
 | c h=>
  have:ren1 σ p=p:=by cases h <;> rfl
  rw [this]
  exact .c (hS p x hG h)
 | ms l _ hl h1 h=>exact .ms _ _ (hu l hl) h1 fun B hB=>h B (hβ l B hl hB)
 | ss l a b _ hl h1 h=>exact .ss _ _ _ _ (hu l hl) h1 fun B hB=>h B (hβ l B hl hB)
 | be l i o _ hl h1 h=>exact .be _ _ _ _ (hu l hl) h1 fun B hB=>h B (hβ l B hl hB)
 | ag cs=>simp [isR] at hp
 | tu cs=>simp [isR] at hp
 | fn f cs=>simp [isR] at hp
theorem Zlu (hβ:∀ l B,E'.used l→E2.β (σ l)=some B→E'.β l=some B) (hu:∀ l,E'.used l→E2.used (σ l)) (hS:∀ p x,(flat=true→isF p=true)→RepC w' E'.S p x→RepC w' E2.S p x) {p:PV} {x:Value}
 (h:Rep w' E' p x) (hp:ZaL flat p) (hna:∀ cs,p≠.ag cs) (hnt:∀ cs,p≠.tu cs):Rep w' E2 (renC σ p) x:=by
 cases p with
 | fn f cs=>
  obtain ⟨hfl,hcs⟩:=hp
  obtain ⟨vs,rfl,hl,hr⟩:=h.fn_inv
  refine .fn f _ vs (by simp [hl]) fun j q x hq hx=>?_
  rw [List.getElem?_map] at hq
  cases hc:cs[j]? with
  | none=>simp [hc] at hq
  | some c=>
   simp only [hc,Option.map_some,Option.some.injEq] at hq
   subst hq
   exact Zpb hβ hu hS (hr j c x hc hx) (hcs c (List.mem_of_getElem? hc)) (fun h=>by rw [hfl] at h; cases h)
 | ag cs=>exact absurd rfl (hna cs)
 | tu cs=>exact absurd rfl (hnt cs)
 | _=>exact Zpb hβ hu hS h rfl hp
theorem Zpc (hβ:∀ l B,E'.used l→E2.β (σ l)=some B→E'.β l=some B) (hu:∀ l,E'.used l→E2.used (σ l)) (hS:∀ p x,(flat=true→isF p=true)→RepC w' E'.S p x→RepC w' E2.S p x) {p:PV} {x:Value}
 (h:Rep w' E' p x) (hp:Zfh flat p):Rep w' E2 (renA σ p) x:=by
 cases p with
 | ag cs=>
  obtain ⟨vs,rfl,hl,h1,hr⟩:=h.ag_inv
  refine .ag _ vs (by simp [hl]) h1 fun j q x hq hx=>?_
  rw [List.getElem?_map] at hq
  cases hc:cs[j]? with
  | none=>simp [hc] at hq
  | some c=>
   simp only [hc,Option.map_some,Option.some.injEq] at hq
   subst hq
   have hrc:=hr j c x hc hx
   have hone:=h1 j x hx
   refine Zlu hβ hu hS hrc (hp c (List.mem_of_getElem? hc)) (fun cs e=>?_) (fun cs e=>?_)
   ·subst e; obtain ⟨_,rfl,_⟩:=hrc.ag_inv; simp [Value.oneCell'] at hone
   ·subst e; obtain ⟨_,rfl,_⟩:=hrc.tu_inv; simp [Value.oneCell'] at hone
 | tu vs=>exact hp.elim
 | _=>exact Zlu hβ hu hS h hp (by simp) (by simp)
theorem ZtG (hβ:∀ l B,E'.used l→E2.β (σ l)=some B→E'.β l=some B) (hu:∀ l,E'.used l→E2.used (σ l)) (hS:∀ p x,(flat=true→isF p=true)→RepC w' E'.S p x→RepC w' E2.S p x) {p:PV} {x:Value}
 (h:Rep w' E' p x) (hp:Zfi flat p):Rep w' E2 (renV σ p) x:=by
 cases p with
 | tu ps=>
  obtain ⟨vs,rfl,hl,hr⟩:=h.tu_inv
  refine .tu _ vs (by simp [hl]) fun j q x hq hx=>?_
  rw [List.getElem?_map] at hq
  cases hc:ps[j]? with
  | none=>simp [hc] at hq
  | some c=>
   simp only [hc,Option.map_some,Option.some.injEq] at hq
   subst hq
   exact Zpc hβ hu hS (hr j c x hc hx) (hp c (List.mem_of_getElem? hc))
 | _=>exact Zpc hβ hu hS h hp
end
/-! The other way round: what a callee is handed. -/
def low1 (n:Nat):PV→Bool
 | .ms l=>decide (l<n)
 | .ss l _ _=>decide (l<n)
 | .be l _ _=>decide (l<n)
 | _=>true
def lowC (n:Nat):PV→Bool
 | .fn _ cs=>cs.all (low1 n)
 | p=>low1 n p
def lowA (n:Nat):PV→Bool
 | .ag cs=>cs.all (lowC n)
 | p=>lowC n p
section
variable {w:World} {E:Env} {S:Nat→Prop} {β:Nat→Option Blk} {n:Nat} {σ:Nat→Nat}
theorem ZsD {ω:Nat→Key→Prop} (hβ:∀ l B,β l=some B→E.β (σ l)=some B) (hS:∀ b,E.S b→S b) {p:PV} {x:Value} (h:Rep w E (ren1 σ p) x) (hp:isR p=true) (hlow:low1 n p=true):Rep w (E1 S β n ω) p x:=by
 cases p with
 | ms l=>
  cases h with
  | c h=>cases h
  | ms _ _ hl h1 h=>exact .ms _ _ (show _<n by simpa [low1] using hlow) h1 fun B hB=>h B (hβ l B hB)
 | ss l a b=>
  cases h with
  | c h=>cases h
  | ss _ _ _ _ hl h1 h=>exact .ss _ _ _ _ (show _<n by simpa [low1] using hlow) h1 fun B hB=>h B (hβ l B hB)
 | be l i o=>
  cases h with
  | c h=>cases h
  | be _ _ _ _ hl h1 h=>exact .be _ _ _ _ (show _<n by simpa [low1] using hlow) h1 fun B hB=>h B (hβ l B hB)
 | ag cs=>simp [isR] at hp
 | tu cs=>simp [isR] at hp
 | fn f cs=>simp [isR] at hp
 | v y=>cases h with | c h=>exact .c (h.all hS)
 | ud=>cases h with | c h=>exact .c (h.all hS)
 | un=>cases h with | c h=>exact .c (h.all hS)
 | sl es=>cases h with | c h=>exact .c (h.all hS)
 | rp cs=>cases h with | c h=>exact .c (h.all hS)
theorem Zn8 {ω:Nat→Key→Prop} (hβ:∀ l B,β l=some B→E.β (σ l)=some B) (hS:∀ b,E.S b→S b) {p:PV} {x:Value} (h:Rep w E (renC σ p) x) (hp:ZaL false p) (hlow:lowC n p=true) (hna:∀ cs,p≠.ag cs) (hnt:∀ cs,p≠.tu cs):Rep w (E1 S β n ω) p x:=by
 cases p with
 | fn f cs=>
  obtain ⟨vs,rfl,hl,hr⟩:=h.fn_inv
  simp only [lowC,List.all_eq_true] at hlow
  refine .fn f _ vs (by simpa using hl) fun j q x hq hx=>?_
  exact ZsD hβ hS (hr j (ren1 σ q) x (by simp [hq]) hx) (hp.2 q (List.mem_of_getElem? hq)) (hlow q (List.mem_of_getElem? hq))
 | ag cs=>exact absurd rfl (hna cs)
 | tu cs=>exact absurd rfl (hnt cs)
 | _=>exact ZsD hβ hS h rfl hlow
theorem Zv6 {ω:Nat→Key→Prop} (hβ:∀ l B,β l=some B→E.β (σ l)=some B) (hS:∀ b,E.S b→S b) {p:PV} {x:Value} (h:Rep w E (renA σ p) x) (hp:Zfh false p) (hlow:lowA n p=true):Rep w (E1 S β n ω) p x:=by
 cases p with
 | ag cs=>
  obtain ⟨vs,rfl,hl,h1,hr⟩:=h.ag_inv
  simp only [lowA,List.all_eq_true] at hlow
  refine .ag _ vs (by simpa using hl) h1 fun j q x hq hx=>?_
  have hrc:=hr j (renC σ q) x (by simp [hq]) hx
  have hone:=h1 j x hx
  refine Zn8 hβ hS hrc (hp q (List.mem_of_getElem? hq)) (hlow q (List.mem_of_getElem? hq)) (fun cs e=>?_) (fun cs e=>?_)
  ·subst e; obtain ⟨_,rfl,_⟩:=Rep.ag_inv hrc; simp [Value.oneCell'] at hone
  ·subst e; obtain ⟨_,rfl,_⟩:=Rep.tu_inv hrc; simp [Value.oneCell'] at hone
 | tu vs=>exact hp.elim
 | _=>exact Zn8 hβ hS h hp hlow (by simp) (by simp)
end
def sig (ρ:List Nat) (ν:Nat) (i:Nat):Nat:=if i<ρ.length then ρ.getD i 0 else ν+(i-ρ.length)
def Zfe (σ:Nat→Nat) (m:Mem) (n:Nat):List Nat→Mem→Prop
 | [],[]=>True
 | l::ρ,some mb0::m0=>m[l]?=some (some (Ze5 σ mb0))∧(∀ cs∈mb0.es,∀ p∈cs,ZaL false p∧lowC n p=true)∧Zfe σ m n ρ m0
 | _,_=>False
def ZeK (σ:Nat→Nat):List Nat→Mem→Mem→Mem
 | l::ρ,r::m1,m=>ZeK σ ρ m1 (m.set l (r.map (Ze5 σ)))
 | _,_,m=>m
def ZcW (σ:Nat→Nat):Nat→Mem→Mem→Mem
 | _,[],m=>m
 | ν,some mb::m1,m=>ZcW σ (ν+1) m1 (mput m ν (Ze5 σ mb))
 | ν,none::m1,m=>ZcW σ (ν+1) m1 ((m++List.replicate (ν+1-m.length) none).set ν none)
theorem ZfR {σ:Nat→Nat} {m:Mem} {n:Nat}:∀ {ρ:List Nat} {m0:Mem},Zfe σ m n ρ m0→ρ.length=m0.length∧∀ (i l:Nat),ρ[i]?=some l→∃ mb0:MB,m0[i]?=some (some mb0)∧m[l]?=some (some (Ze5 σ mb0))∧∀ cs∈mb0.es,∀ p∈cs,ZaL false p∧lowC n p=true
 | [],[],_=>⟨rfl,by simp⟩
 | [],_::_,h=>h.elim
 | _::_,[],h=>h.elim
 | l::ρ,none::m0,h=>h.elim
 | l::ρ,some mb0::m0,h=>by
  obtain ⟨h1,h2⟩:=ZfR h.2.2
  refine ⟨by simp [h1],fun i l' hi=>?_⟩
  cases i with
  | zero=>
   obtain rfl:l=l':=by simpa using hi
   exact ⟨mb0,rfl,h.1,h.2.1⟩
  | succ i=>exact h2 i l' (by simpa using hi)
theorem ZmO {σ:Nat→Nat}:∀ (ρ:List Nat) (m1 m:Mem),(ZeK σ ρ m1 m).length=m.length
 | [],_,_=>by unfold ZeK; rfl
 | _::_,[],_=>by unfold ZeK; rfl
 | l::ρ,r::m1,m=>by unfold ZeK; rw [ZmO]; simp
theorem Zls {σ:Nat→Nat}:∀ (ρ:List Nat) (m1 m:Mem) (l:Nat),l ∉ ρ→(ZeK σ ρ m1 m)[l]?=m[l]?
 | [],_,_,_,_=>by unfold ZeK; rfl
 | _::_,[],_,_,_=>by unfold ZeK; rfl
 | k::ρ,r::m1,m,l,hl=>by
  unfold ZeK
  rw [Zls ρ m1 _ l (fun h=>hl (List.mem_cons_of_mem _ h)),List.getElem?_set_ne (by rintro rfl; exact hl List.mem_cons_self)]
theorem ZmN {σ:Nat→Nat}:∀ (ρ:List Nat) (m1 m:Mem),ρ.Nodup→(∀ l∈ρ,l<m.length)→ρ.length≤m1.length→∀ (i l:Nat),ρ[i]?=some l→(ZeK σ ρ m1 m)[l]?=(m1[i]?).map (Option.map (Ze5 σ))
 | [],_,_,_,_,_,_,_,h=>by simp at h
 | _::_,[],_,_,_,hl,_,_,_=>by simp at hl
 | k::ρ,r::m1,m,hn,hlt,hl,i,l,hi=>by
  unfold ZeK
  rw [List.nodup_cons] at hn
  cases i with
  | zero=>
   obtain rfl:k=l:=by simpa using hi
   rw [Zls ρ m1 _ k hn.1,List.getElem?_set_self (hlt k List.mem_cons_self)]
   rfl
  | succ i=>
   rw [ZmN ρ m1 _ hn.2 (fun l' hl'=>by rw [List.length_set]; exact hlt l' (List.mem_cons_of_mem _ hl')) (by simpa using hl) i l (by simpa using hi)]
   simp
theorem Zil {σ:Nat→Nat}:∀ (ν:Nat) (m1 m:Mem),m.length≤(ZcW σ ν m1 m).length∧∀ i,i<m1.length→ν+i<(ZcW σ ν m1 m).length
 | ν,[],m=>by unfold ZcW; simp
 | ν,some mb::m1,m=>by
  unfold ZcW
  obtain ⟨h1,h2⟩:=Zil (σ:=σ) (ν+1) m1 (mput m ν (Ze5 σ mb))
  rw [Zlh] at h1
  refine ⟨by omega,fun i hi=>?_⟩
  cases i with
  | zero=>omega
  | succ i=>have:=h2 i (by simpa using hi); omega
 | ν,none::m1,m=>by
  unfold ZcW
  obtain ⟨h1,h2⟩:=Zil (σ:=σ) (ν+1) m1 ((m++List.replicate (ν+1-m.length) none).set ν none)
  simp only [List.length_set,List.length_append,List.length_replicate] at h1
  refine ⟨by omega,fun i hi=>?_⟩
  cases i with
  | zero=>omega
  | succ i=>have:=h2 i (by simpa using hi); omega
theorem ZvE {m:Mem} {n l ν:Nat} {mb:MB} (h:((m++List.replicate n none).set ν none)[l]?=some (some mb)):m[l]?=some (some mb):=by
 rw [List.getElem?_set] at h
 split at h
 ·split at h <;> simp at h
 rcases Nat.lt_or_ge l m.length with h1 | h1
 ·rwa [List.getElem?_append_left h1] at h
 ·rw [List.getElem?_append_right h1,List.getElem?_replicate] at h
  split at h <;> simp at h
theorem Zik {σ:Nat→Nat}:∀ (ν:Nat) (m1 m:Mem) (l:Nat) (mb:MB),(ZcW σ ν m1 m)[l]?=some (some mb)→(∃ i mb1,l=ν+i∧m1[i]?=some (some mb1)∧mb=Ze5 σ mb1)∨m[l]?=some (some mb)
 | ν,[],m,l,mb,h=>by unfold ZcW at h; exact .inr h
 | ν,some mb1::m1,m,l,mb,h=>by
  unfold ZcW at h
  rcases Zik (σ:=σ) (ν+1) m1 _ l mb h with ⟨i,mb2,rfl,h1,h2⟩ | h'
  ·exact .inl ⟨i+1,mb2,by omega,by simpa using h1,h2⟩
  ·by_cases hl:l=ν
   ·subst hl
    rw [ZgB] at h'
    exact .inl ⟨0,mb1,rfl,rfl,by simpa [eq_comm] using h'⟩
   ·exact .inr ((ZjJ hl).1 h')
 | ν,none::m1,m,l,mb,h=>by
  unfold ZcW at h
  rcases Zik (σ:=σ) (ν+1) m1 _ l mb h with ⟨i,mb2,rfl,h1,h2⟩ | h'
  ·exact .inl ⟨i+1,mb2,by omega,by simpa using h1,h2⟩
  ·exact .inr (ZvE h')
def ZhI (m:Mem) (l:Nat):Bool:=match m[l]? with
 | some (some _)=>true
 | _=>false
theorem Zgx {m:Mem} {l:Nat}:ZhI m l=true↔∃ mb,m[l]?=some (some mb):=by
 unfold ZhI
 split
 ·rename_i mb h; simp [h]
 ·rename_i h
  simp only [Bool.false_eq_true,false_iff]
  rintro ⟨mb,hm⟩
  exact h mb hm
theorem Zdc.renamed {w':World} {E' E2:Env} {σ:Nat→Nat} {flat:Bool} {mb:MB} {B:Blk} (h:Zdc w' E' mb B) (hg:∀ cs∈mb.es,∀ p∈cs,ZaL flat p) (hβ:∀ l B,E'.used l→E2.β (σ l)=some B→E'.β l=some B) (hu:∀ l,E'.used l→E2.used (σ l))
 (hS:∀ p x,(flat=true→isF p=true)→RepC w' E'.S p x→RepC w' E2.S p x) (hω:flat=false→∀ b q,E'.ω b q→E2.ω b q):Zdc w' E2 (Ze5 σ mb) B:=by
 refine ⟨h.k,by rw [h.n]; simp [Ze5,Zg3],h.T,h.pos,h.nc,h.cm,fun i cs hi=>?_,fun hz=>by simp [Ze5,Zg3,h.nil hz],fun hz=>?_,fun T hT hz i cs j es x hi hj hne hc=>?_⟩
 ·simp only [Ze5,Zg3,List.getElem?_map] at hi
  obtain ⟨cs0,h0,rfl⟩:=Option.map_eq_some_iff.1 hi
  rw [List.length_map]; exact h.es i cs0 h0
 ·obtain ⟨cells,m1,m2,m3⟩:=h.mem hz
  refine ⟨cells,m1,m2,fun i cs j p hi hj=>?_⟩
  simp only [Ze5,Zg3,List.getElem?_map] at hi
  obtain ⟨cs0,h0,rfl⟩:=Option.map_eq_some_iff.1 hi
  rw [List.getElem?_map] at hj
  obtain ⟨p0,hp0,rfl⟩:=Option.map_eq_some_iff.1 hj
  obtain ⟨x,x1,x2,x3⟩:=m3 i cs0 j p0 h0 hp0
  refine ⟨x,x1,x2,Zlu hβ hu hS x3 (hg cs0 (List.mem_of_getElem? h0) p0 (List.mem_of_getElem? hp0)) (fun cs e=>?_) (fun cs e=>?_)⟩
  ·subst e; obtain ⟨_,rfl,_⟩:=x3.ag_inv; simp [Value.oneCell'] at x2
  ·subst e; obtain ⟨_,rfl,_⟩:=x3.tu_inv; simp [Value.oneCell'] at x2
 ·simp only [Ze5,Zg3,List.getElem?_map] at hi
  obtain ⟨cs0,h0,rfl⟩:=Option.map_eq_some_iff.1 hi
  rw [List.getElem?_map] at hj
  obtain ⟨p0,hp0,he⟩:=Option.map_eq_some_iff.1 hj
  obtain rfl:=ZvR he
  have hg0:=hg cs0 (List.mem_of_getElem? h0) _ (List.mem_of_getElem? hp0)
  cases hfl:flat with
  | true=>rw [hfl] at hg0; simp [ZaL,isF] at hg0
  | false=>
   obtain ⟨b,c,k,cs1,a1,a2,a3⟩:=h.key T hT hz i cs0 j es x h0 hp0 hne hc
   exact ⟨b,c,k,cs1,a1,hω hfl b _ a2,a3⟩
section
variable {w:World} {O:Nat→Prop} {E:Env} {w0:World} {m:Mem} {P:Program}
open Classical in
theorem Zoj (hk:Ok w0 O E w m) {ν:Nat} {f:FuncId} {qs:List PV} {vs:Array Value} {ρ:List Nat} {m0 m1:Mem} {r:PV} {flat:Bool} {S:Nat→Prop} (hc:Zd1 P f qs m0 r m1) (hν:∀ i,i<m1.length-m0.length→¬ E.used (ν+i)) (hle:m0.length≤m1.length)
 (hl:vs.size=qs.length) (hargs:∀ β:Nat→Option Blk,(∀ l B,β l=some B→E.β (sig ρ ν l)=some B)→∀ (i:Nat) (p:PV),qs[i]?=some p→∃ x,vs[i]?=some x∧Rep w (E1 S β m0.length E.ω) p x)
 (hn:ρ.Nodup) (hin:Zfe (sig ρ ν) m m0.length ρ m0) (hS1:∀ b,E.S b→S b) (hS2:flat=false→S=E.S) (hfl:flat=true→m0=[]) (hSsz:∀ b,S b→b<w.heap.size)
 (hm1:∀ mb,some mb∈m1→∀ cs∈mb.es,∀ p∈cs,ZaL flat p) (hr:Zfi flat r):
 Calls P f vs w fun e w'=>∃ v E2,e=.returned v∧Ok w0 O E2 w' (ZcW (sig ρ ν) ν (m1.drop ρ.length) (ZeK (sig ρ ν) ρ m1 m))∧Ext w w' E E2∧Rep w' E2 (renV (sig ρ ν) r) v∧∀ l,E2.used l→E.used l∨(ν≤l∧l<ν+(m1.length-m0.length)):=by
 obtain ⟨hρl,hρ⟩:=ZfR hin
 have sig_lo:∀ {i l},ρ[i]?=some l→sig ρ ν i=l:=fun {i l} h=>by
  have hi:i<ρ.length:=(List.getElem?_eq_some_iff.1 h).1
  unfold sig List.getD
  rw [if_pos hi,h]; rfl
 have sig_lo':∀ {i},i<ρ.length→∃ l,ρ[i]?=some l∧sig ρ ν i=l:=fun {i} hi=>⟨ρ[i],List.getElem?_eq_getElem hi,sig_lo (List.getElem?_eq_getElem hi)⟩
 have sig_hi:∀ {i},¬ i<ρ.length→sig ρ ν i=ν+(i-ρ.length):=fun {i} hi=>by simp [sig,hi]
 have hused:∀ {i},i<m1.length→E.used (sig ρ ν i)→i<ρ.length:=fun {i} hi hu=>by
  by_cases h:i<ρ.length
  ·exact h
  ·rw [sig_hi h] at hu
   exact absurd hu (hν _ (by omega))
 have hρu:∀ l∈ρ,E.used l:=fun l hl=>by
  obtain ⟨i,hi⟩:=List.getElem?_of_mem hl
  obtain ⟨mb0,_,h2,_⟩:=hρ i l hi
  exact Zc0 hk h2
 have sig_inj:∀ {i j},i<m1.length→j<m1.length→sig ρ ν i=sig ρ ν j→i=j:=by
  intro i j hi hj e
  by_cases h1:i<ρ.length <;> by_cases h2:j<ρ.length
  ·obtain ⟨a,ha,ea⟩:=sig_lo' h1
   obtain ⟨b,hb,eb⟩:=sig_lo' h2
   have hab:a=b:=by rw [← ea,← eb,e]
   subst hab
   rw [List.getElem?_eq_getElem h1,Option.some.injEq] at ha
   rw [List.getElem?_eq_getElem h2,Option.some.injEq] at hb
   rcases Nat.lt_trichotomy i j with h3 | h3 | h3
   ·exact absurd (ha.trans hb.symm) (List.pairwise_iff_getElem.1 hn i j h1 h2 h3)
   ·exact h3
   ·exact absurd (hb.trans ha.symm) (List.pairwise_iff_getElem.1 hn j i h2 h1 h3)
  ·obtain ⟨a,ha,ea⟩:=sig_lo' h1
   have:=hused hj (by rw [← e,ea]; exact hρu a (List.mem_of_getElem? ha))
   omega
  ·obtain ⟨b,hb,eb⟩:=sig_lo' h2
   have:=hused hi (by rw [e,eb]; exact hρu b (List.mem_of_getElem? hb))
   omega
  ·rw [sig_hi h1,sig_hi h2] at e; omega
 -- the callee's rows
 let β:Nat→Option Blk:=fun i=>if i<ρ.length then E.β (sig ρ ν i) else none
 have hβe:∀ {i B},β i=some B→i<ρ.length∧E.β (sig ρ ν i)=some B:=fun {i B} h=>by
  simp only [β] at h
  split at h
  ·exact ⟨by assumption,h⟩
  ·cases h
 have hnS:∀ l B,E.β l=some B→B.z=false→l∈ρ→¬ S B.b:=fun l B hB hz hlρ=>by
  cases flat with
  | false=>rw [hS2 rfl]; exact (hk.own l B hB hz).2.2
  | true=>
   have:=hfl rfl
   rw [this] at hρl
   rw [List.length_eq_zero_iff.1 hρl] at hlρ
   cases hlρ
 have hokc:Ok w (own0 β) (E1 S β m0.length E.ω) w m0:=by
  refine ⟨UpO.refl _ _,hSsz,fun l B hB hz=>?_,fun l l' B B' hB hB' hz hz' e=>?_,fun l hl=>hl,fun l B hB=>?_,fun l mb0 hm0=>?_,fun l B hB=>?_,hk.tabc fun b hb=>?_,fun b q hq=>⟨hS1 b (hk.ow b q hq).1,(hk.ow b q hq).2⟩⟩
  ·obtain ⟨h1,h2⟩:=hβe hB
   obtain ⟨a,ha,ea⟩:=sig_lo' h1
   rw [ea] at h2
   exact ⟨.inl ⟨l,B,hB,hz,rfl⟩,(hk.own a B h2 hz).2.1,hnS a B h2 hz (List.mem_of_getElem? ha)⟩
  ·obtain ⟨h1,h2⟩:=hβe hB
   obtain ⟨h3,h4⟩:=hβe hB'
   exact sig_inj (by omega) (by omega) (hk.inj _ _ B B' h2 h4 hz hz' e)
  ·have:=(hβe hB).1
   show l<m0.length
   omega
  ·have hl0:l<ρ.length:=by rw [hρl]; exact (List.getElem?_eq_some_iff.1 hm0).1
   obtain ⟨a,ha,ea⟩:=sig_lo' hl0
   obtain ⟨mb0',h1,h2,h3⟩:=hρ l a ha
   rw [hm0] at h1
   simp only [Option.some.injEq] at h1
   subst h1
   obtain ⟨B,hB,hb⟩:=hk.mem a _ h2
   refine ⟨B,by simp only [E1,β]; rw [if_pos hl0,ea]; exact hB,hb.k,by rw [hb.n]; simp [Ze5,Zg3],hb.T,hb.pos,hb.nc,hb.cm,fun i cs hi=>?_,fun hz=>?_,fun hz=>?_,fun T hT hz i cs j es x hi hj hne hcx=>?_⟩
   ·have:=hb.es i (cs.map (renC (sig ρ ν))) (by simp [Ze5,Zg3,hi])
    simpa using this
   ·have:=hb.nil hz
    simpa [Ze5,Zg3] using this
   ·obtain ⟨cells,m1',m2',m3'⟩:=hb.mem hz
    refine ⟨cells,m1',m2',fun i cs j p hi hj=>?_⟩
    obtain ⟨x,x1,x2,x3⟩:=m3' i (cs.map (renC (sig ρ ν))) j (renC (sig ρ ν) p) (by simp [Ze5,Zg3,hi]) (by simp [hj])
    have hgl:=h3 cs (List.mem_of_getElem? hi) p (List.mem_of_getElem? hj)
    refine ⟨x,x1,x2,Zn8 (E:=E) (fun l B hB=>(hβe hB).2) hS1 x3 hgl.1 hgl.2 (fun cs e=>?_) (fun cs e=>?_)⟩
    ·subst e; obtain ⟨_,rfl,_⟩:=Rep.ag_inv x3; simp [Value.oneCell'] at x2
    ·subst e; obtain ⟨_,rfl,_⟩:=Rep.tu_inv x3; simp [Value.oneCell'] at x2
   ·exact hb.key T hT hz i (cs.map (renC (sig ρ ν))) j es x (by simp [Ze5,Zg3,hi]) (by simp [hj,renC,ren1]) hne hcx
  ·obtain ⟨h1,h2⟩:=hβe hB
   obtain ⟨a,ha,ea⟩:=sig_lo' h1
   obtain ⟨mb0,h3,_⟩:=hρ l a ha
   exact ⟨mb0,h3⟩
  ·obtain ⟨l,B,hB,hz,rfl⟩:=hb
   obtain ⟨h1,h2⟩:=hβe hB
   exact (hk.own _ B h2 hz).1
 refine (hc S β w vs E.ω hokc hl (hargs β fun l B hB=>(hβe hB).2)).mono ?_
 rintro e w' ⟨v,E',rfl,hok,hSS,hSn,⟨hβ',hωn⟩,hrep⟩
 have hm1l:∀ {i},E'.used i→i<m1.length:=fun {i} h=>hok.used i h
 -- the caller's rows behind the call
 let m2:=ZcW (sig ρ ν) ν (m1.drop ρ.length) (ZeK (sig ρ ν) ρ m1 m)
 let S2:Nat→Prop:=fun b=>if flat then E.S b else E'.S b
 let β2:Nat→Option Blk:=fun l=>if ZhI m2 l=true then (if h:∃ i,i<m1.length∧sig ρ ν i=l then E'.β (Classical.choose h) else E.β l) else none
 let E2:Env:={ S:=S2,β:=β2,used:=fun l=>E.used l∨∃ i,E'.used i∧sig ρ ν i=l,ω:=fun b q=>E.ω b q∨(flat=false∧E'.ω b q) }
 have hρlt:∀ l∈ρ,l<m.length:=fun l hl=>hk.used l (hρu l hl)
 have hget:∀ {l mb},m2[l]?=some (some mb)→(∃ i mb1,i<m1.length∧sig ρ ν i=l∧m1[i]?=some (some mb1)∧mb=Ze5 (sig ρ ν) mb1)∨(l ∉ ρ∧(¬ ∃ i,i<m1.length∧sig ρ ν i=l)∧m[l]?=some (some mb)):=by
  intro l mb h
  rcases Zik _ _ _ _ _ h with ⟨i,mb1,rfl,h1,h2⟩ | h'
  ·rw [List.getElem?_drop] at h1
   refine .inl ⟨ρ.length+i,mb1,(List.getElem?_eq_some_iff.1 h1).1,?_,h1,h2⟩
   rw [sig_hi (by omega)]; omega
  ·by_cases hl:l∈ρ
   ·obtain ⟨i,hi⟩:=List.getElem?_of_mem hl
    have hil:i<ρ.length:=(List.getElem?_eq_some_iff.1 hi).1
    rw [ZmN ρ m1 m hn hρlt (by omega) i l hi] at h'
    rw [List.getElem?_eq_getElem (show i<m1.length by omega)] at h'
    simp only [Option.map_some,Option.some.injEq] at h'
    obtain ⟨mb1,h1,h2⟩:=Option.map_eq_some_iff.1 h'
    exact .inl ⟨i,mb1,by omega,sig_lo hi,by rw [List.getElem?_eq_getElem (show i<m1.length by omega),h1],h2.symm⟩
   ·rw [Zls ρ m1 m l hl] at h'
    refine .inr ⟨hl,?_,h'⟩
    rintro ⟨i,hi,rfl⟩
    have:=hused hi (Zc0 hk h')
    obtain ⟨a,ha,ea⟩:=sig_lo' this
    rw [ea] at hl
    exact hl (List.mem_of_getElem? ha)
 have hch:∀ {i} (hi:i<m1.length) (h:∃ j,j<m1.length∧sig ρ ν j=sig ρ ν i),Classical.choose h=i:=fun {i} hi h=>sig_inj (Classical.choose_spec h).1 hi (Classical.choose_spec h).2
 have hβ2:∀ {l B},β2 l=some B→ZhI m2 l=true∧((∃ i,i<m1.length∧sig ρ ν i=l∧E'.β i=some B)∨((¬ ∃ i,i<m1.length∧sig ρ ν i=l)∧E.β l=some B)):=by
  intro l B h
  simp only [β2] at h
  split at h
  ·rename_i hlv
   refine ⟨hlv,?_⟩
   split at h
   ·rename_i hex
    exact .inl ⟨Classical.choose hex,(Classical.choose_spec hex).1,(Classical.choose_spec hex).2,h⟩
   ·rename_i hex
    exact .inr ⟨hex,h⟩
  ·cases h
 have hsame:∀ b,b<w.heap.size→¬ own0 β b→w'.heap[b]?=w.heap[b]?:=fun b hb hn=>hok.up.block b hb hn
 have howns:∀ b,own0 β b→∃ l B,l∈ρ∧E.β l=some B∧B.z=false∧B.b=b:=by
  rintro b ⟨l,B,hB,hz,rfl⟩
  obtain ⟨h1,h2⟩:=hβe hB
  obtain ⟨a,ha,ea⟩:=sig_lo' h1
  exact ⟨a,B,List.mem_of_getElem? ha,by rw [← ea]; exact h2,hz,rfl⟩
 have hS2a:∀ b,S2 b→E'.S b:=fun b hb=>by
  simp only [S2] at hb
  split at hb
  ·exact hSS b (hS1 b hb)
  ·exact hb
 have hS2':∀ b,S2 b→E.S b∨w.heap.size≤b∨own0 β b:=fun b hb=>by
  simp only [S2] at hb
  split at hb
  ·exact .inl hb
  ·rename_i hf
   rcases hSn b hb with h | h | h
   ·rw [hS2 (by simpa using hf)] at h; exact .inl h
   ·exact .inr (.inl h)
   ·exact .inr (.inr h)
 have hown1:∀ b,own0 β b→own0 E.β b:=fun b ho=>by
  obtain ⟨l,B,_,hB,hz,rfl⟩:=howns b ho
  exact ⟨l,B,hB,hz,rfl⟩
 have hSE:∀ b,E.S b→S2 b:=fun b hb=>by
  simp only [S2]
  split
  ·exact hb
  ·exact hSS b (hS1 b hb)
 have hx:Ext w w' E E2:=by
  refine ⟨hSE,fun b o hb=>cell_of_heap (hsame b (hk.sz b hb) fun ho=>?_),fun l B hl hB=>?_,fun l hl=>.inl hl,fun b hb=>(hS2' b hb).imp id fun h=>h.imp id (hown1 b),fun b ho=>?_,hok.up.size,fun b q hq=>⟨.inl hq,hsame b (hk.sz b (hk.ow b q hq).1) fun ho=>(by obtain ⟨l,B,_,hB,hz,rfl⟩:=howns b ho; exact (hk.own l B hB hz).2.2 (hk.ow _ q hq).1)⟩,fun b q hq=>(by rcases hq with h | ⟨_,h⟩; exact .inl h; exact (hωn b q h).imp id fun h=>h.imp id (hown1 b))⟩
  ·obtain ⟨l,B,_,hB,hz,rfl⟩:=howns b ho
   exact (hk.own l B hB hz).2.2 hb
  ·rcases (hβ2 hB).2 with ⟨i,hi,rfl,hB'⟩ | ⟨_,hB'⟩
   ·have hlt:=hused hi hl
    obtain ⟨h1,h2⟩:=hβe (hβ' i B (by omega) hB')
    exact h2
   ·exact hB'
  ·obtain ⟨l,B,hB,hz,rfl⟩:=ho
   rcases (hβ2 hB).2 with ⟨i,hi,_,hB'⟩ | ⟨_,hB'⟩
   ·rcases (hok.own i B hB' hz).1 with h | h
    ·exact .inl (hown1 _ h)
    ·exact .inr h
   ·exact .inl ⟨l,B,hB',hz,rfl⟩
 have hren:∀ l B,E'.used l→E2.β (sig ρ ν l)=some B→E'.β l=some B:=by
  intro l B hl hB
  rcases (hβ2 hB).2 with ⟨i,hi,he,hB'⟩ | ⟨hno,_⟩
  ·rw [← sig_inj hi (hm1l hl) he]; exact hB'
  ·exact absurd ⟨l,hm1l hl,rfl⟩ hno
 have hrenS:∀ p x,(flat=true→isF p=true)→RepC w' E'.S p x→RepC w' E2.S p x:=by
  intro p x hp h
  cases hf:flat with
  | true=>exact h.flat (hp hf)
  | false=>exact h.all fun b hb=>by simp only [E2,S2,hf]; exact hb
 have hmix:∀ b q q',E.ω b q→E'.ω b q'→q'=q:=fun b q q' h h'=>by
  rcases hωn b q' h' with h1 | h1 | h1
  ·exact (hk.ow b q h).2 q' h1
  ·have:=hk.sz b (hk.ow b q h).1; omega
  ·obtain ⟨l,B,_,hB,hz,rfl⟩:=howns b h1
   exact absurd (hk.ow _ q h).1 (hk.own l B hB hz).2.2
 have how:∀ b q,E2.ω b q→E2.S b∧∀ q',E2.ω b q'→q'=q:=fun b q hq=>by
  rcases hq with h | ⟨hf,h⟩
  ·refine ⟨hSE b (hk.ow b q h).1,fun q' hq'=>?_⟩
   rcases hq' with h' | ⟨_,h'⟩
   ·exact (hk.ow b q h).2 q' h'
   ·exact hmix b q q' h h'
  ·refine ⟨by simp only [E2,S2,hf]; exact (hok.ow b q h).1,fun q' hq'=>?_⟩
   rcases hq' with h' | ⟨_,h'⟩
   ·exact (hmix b q' q h' h).symm
   ·exact (hok.ow b q h).2 q' h'
 refine ⟨v,E2,rfl,⟨?_,fun b hb=>hok.sz b (hS2a b hb),fun l B hB hz=>?_,fun l l' B B' hB hB' hz hz' e=>?_,fun l hl=>?_,fun l B hB=>?_,fun l mb hm2=>?_,fun l B hB=>Zgx.1 (hβ2 hB).1,hk.tab,how⟩,hx,
  ZtG (flat:=flat) hren (fun l hl=>.inr ⟨l,hl,rfl⟩) hrenS hrep hr,fun l hl=>?_⟩
 ·refine hk.up.trans hok.up fun b hb ho=>?_
  obtain ⟨l,B,_,hB,hz,rfl⟩:=howns b ho
  rcases (hk.own l B hB hz).1 with h | h
  ·exact h
  ·omega
 ·rcases (hβ2 hB).2 with ⟨i,hi,rfl,hB'⟩ | ⟨hno,hB'⟩
  ·obtain ⟨h1,h2,h3⟩:=hok.own i B hB' hz
   refine ⟨?_,h2,fun hS=>h3 (hS2a _ hS)⟩
   rcases h1 with h1 | h1
   ·obtain ⟨l,B1,_,hB1,hz1,e1⟩:=howns _ h1
    rw [← e1]; exact (hk.own l B1 hB1 hz1).1
   ·exact .inr (by have:=hk.up.size; omega)
  ·obtain ⟨h1,h2,h3⟩:=hk.own l B hB' hz
   refine ⟨h1,by have:=hok.up.size; omega,fun hS=>?_⟩
   rcases hS2' _ hS with h | h | h
   ·exact h3 h
   ·omega
   ·obtain ⟨l3,B3,hl3,hB3,hz3,e3⟩:=howns _ h
    have:=hk.inj l3 l B3 B hB3 hB' hz3 hz e3
    subst this
    obtain ⟨j,hj⟩:=List.getElem?_of_mem hl3
    have hjl:j<ρ.length:=(List.getElem?_eq_some_iff.1 hj).1
    exact hno ⟨j,by omega,sig_lo hj⟩
 ·have cross:∀ {i l2 B1 B2},i<m1.length→E'.β i=some B1→(¬ ∃ j,j<m1.length∧sig ρ ν j=l2)→E.β l2=some B2→B1.z=false→B2.z=false→B1.b=B2.b→False:=by
   intro i l2 B1 B2 hi hB1 hno hB2 hz1 hz2 e
   rcases (hok.own i B1 hB1 hz1).1 with h | h
   ·obtain ⟨l3,B3,hl3,hB3,hz3,e3⟩:=howns _ h
    have:=hk.inj l3 l2 B3 B2 hB3 hB2 hz3 hz2 (e3.trans e)
    subst this
    obtain ⟨j,hj⟩:=List.getElem?_of_mem hl3
    have hjl:j<ρ.length:=(List.getElem?_eq_some_iff.1 hj).1
    exact hno ⟨j,by omega,sig_lo hj⟩
   ·have:=(hk.own l2 B2 hB2 hz2).2.1
    omega
  rcases (hβ2 hB).2 with ⟨i,hi,rfl,h1⟩ | ⟨hno,h1⟩ <;> rcases (hβ2 hB').2 with ⟨i',hi',rfl,h2⟩ | ⟨hno',h2⟩
  ·rw [hok.inj i i' B B' h1 h2 hz hz' e]
  ·exact (cross hi h1 hno' h2 hz hz' e).elim
  ·exact (cross hi' h2 hno h1 hz' hz e.symm).elim
  ·exact hk.inj l l' B B' h1 h2 hz hz' e
 ·obtain ⟨g1,g2⟩:=Zil (σ:=sig ρ ν) ν (m1.drop ρ.length) (ZeK (sig ρ ν) ρ m1 m)
  rw [ZmO] at g1
  show l<(ZcW (sig ρ ν) ν (m1.drop ρ.length) (ZeK (sig ρ ν) ρ m1 m)).length
  rcases hl with hl | ⟨i,hi,rfl⟩
  ·have:=hk.used l hl; omega
  ·have hi':=hm1l hi
   by_cases h:i<ρ.length
   ·obtain ⟨a,ha,ea⟩:=sig_lo' h
    rw [ea]
    have:=hρlt a (List.mem_of_getElem? ha)
    omega
   ·rw [sig_hi h]
    exact g2 _ (by simp; omega)
 ·rcases (hβ2 hB).2 with ⟨i,hi,rfl,h1⟩ | ⟨hno,h1⟩
  ·exact .inr ⟨i,hok.bu i B h1,rfl⟩
  ·exact .inl (hk.bu l B h1)
 ·have hlv:ZhI m2 l=true:=Zgx.2 ⟨mb,hm2⟩
  rcases hget hm2 with ⟨i,mb1,hi,rfl,h1,rfl⟩ | ⟨hl,hno,h1⟩
  ·obtain ⟨B,hB,hb⟩:=hok.mem i mb1 h1
   have hex:∃ j,j<m1.length∧sig ρ ν j=sig ρ ν i:=⟨i,hi,rfl⟩
   refine ⟨B,?_,hb.renamed (flat:=flat) (hm1 mb1 (List.mem_of_getElem? h1)) hren (fun l hl=>.inr ⟨l,hl,rfl⟩) hrenS fun hf b q hq=>.inr ⟨hf,hq⟩⟩
   simp only [E2,β2,hlv,if_true,hex,dif_pos]
   rw [hch hi]
   exact hB
  ·obtain ⟨B,hB,hb⟩:=hk.mem l mb h1
   refine ⟨B,by simp only [E2,β2,hlv,if_true]; rw [dif_neg hno]; exact hB,hb.ext hx fun hz=>hsame _ (hk.own l B hB hz).2.1 fun ho=>?_⟩
   obtain ⟨l3,B3,hl3,hB3,hz3,e3⟩:=howns _ ho
   exact hl (hk.inj l3 l B3 B hB3 hB hz3 hz e3 ▸ hl3)
 ·rcases hl with hl | ⟨i,hi,rfl⟩
  ·exact .inl hl
  ·have hi':=hm1l hi
   by_cases h:i<ρ.length
   ·obtain ⟨a,ha,ea⟩:=sig_lo' h
    rw [ea]
    exact .inl (hρu a (List.mem_of_getElem? ha))
   ·rw [sig_hi h]
    exact .inr ⟨by omega,by omega⟩
def isCA:PV→Bool
 | .ag cs=>cs.all isC
 | .tu _=>false
 | p=>isC p
def ZfX (P:Program) (io:Bool) (wd ν:Nat) (f:FuncId) (ps:List PV) (m:Mem) (K:PV→Mem→Prop):Prop:=
 (∃ r m1,Zio m ps (fun qs=>Zd1 P f qs [] r m1)∧m1.length≤wd∧(∀ mb,some mb∈m1→∀ cs∈mb.es,∀ p∈cs,ZaL true p)∧Zfi true r∧K (renV (sig [] ν) r) (ZcW (sig [] ν) ν m1 m))∨
 ∃ (ρ:List Nat) (m0:Mem) (qs:List PV) (r:PV) (m1:Mem),(io=true∨ρ=[])∧Zd1 P f qs m0 r m1∧m0.length≤m1.length∧m1.length-m0.length≤wd∧ps=qs.map (renA (sig ρ ν))∧(∀ q∈qs,Zfh false q∧lowA m0.length q=true)∧ρ.Nodup∧Zfe (sig ρ ν) m m0.length ρ m0∧
  (∀ mb,some mb∈m1→∀ cs∈mb.es,∀ p∈cs,ZaL false p)∧Zfi false r∧K (renV (sig ρ ν) r) (ZcW (sig ρ ν) ν (m1.drop ρ.length) (ZeK (sig ρ ν) ρ m1 m))
theorem ZnM (hk:Ok w0 O E w m) {io:Bool} {wd ν:Nat} (hν:∀ i,i<wd→¬ E.used (ν+i)) {f:FuncId} {ps:List PV} {vs:Array Value} (hl:vs.size=ps.length) (hr:∀ (j:Nat) (p:PV) (x:Value),ps[j]?=some p→vs[j]?=some x→Rep w E p x) {K:PV→Mem→Prop} (h:ZfX P io wd ν f ps m K):
 ∃ r m',K r m'∧Calls P f vs w fun e w'=>∃ v E',e=.returned v∧Ok w0 O E' w' m'∧Ext w w' E E'∧Rep w' E' r v∧∀ l,E'.used l→E.used l∨(ν≤l∧l<ν+wd):=by
 rcases h with ⟨r,m1,hs,hwd,hm1,hgr,hK⟩ | ⟨ρ,m0,qs,r,m1,_,hc,hle,hwd,hps,hqs,hn,hin,hm1,hgr,hK⟩
 ·refine ⟨_,_,hK,?_⟩
  obtain ⟨ds,hc,hdl,hd⟩:=Zm1 hk ps vs.toList _ (by simpa using hl) (fun j p x hp hx=>hr j p x hp (by simpa using hx)) hs
  have hsz:∀ b,Sall E b→b<w.heap.size:=by
   rintro b (h | ⟨l,B,hB,hz,rfl⟩)
   ·exact hk.sz b h
   ·exact (hk.own l B hB hz).2.1
  refine (Zoj (ρ:=[]) (flat:=true) hk hc (fun i hi=>hν i (by simp at hi; omega)) (Nat.zero_le _) (by rw [hl,hdl]) (fun β _ i p hp=>?_) List.nodup_nil trivial (fun b hb=>.inl hb) (fun h=>by cases h) (fun _=>rfl) hsz hm1 hgr).mono ?_
  ·have hi:i<vs.size:=by rw [hl,← hdl]; exact (List.getElem?_eq_some_iff.1 hp).1
   exact ⟨vs[i],Array.getElem?_eq_getElem hi,hd i p _ hp (by simp [Array.getElem?_eq_getElem hi]) _ _ _⟩
  ·rintro e w' ⟨v,E2,he,h1,h2,h3,h4⟩
   exact ⟨v,E2,he,h1,h2,h3,fun l hl=>(h4 l hl).imp id fun h=>⟨h.1,by have:=h.2; simp at this; omega⟩⟩
 ·refine ⟨_,_,hK,?_⟩
  have hql:vs.size=qs.length:=by rw [hl,hps,List.length_map]
  refine (Zoj (ρ:=ρ) (flat:=false) (S:=E.S) hk hc (fun i hi=>hν i (by omega)) hle hql (fun β hβ i p hp=>?_) hn hin (fun b hb=>hb) (fun _=>rfl) (fun h=>by cases h) hk.sz hm1 hgr).mono ?_
  ·have hi:i<vs.size:=by rw [hql]; exact (List.getElem?_eq_some_iff.1 hp).1
   have hg:=hqs p (List.mem_of_getElem? hp)
   exact ⟨vs[i],Array.getElem?_eq_getElem hi,Zv6 hβ (fun b hb=>hb) (hr i (renA (sig ρ ν) p) _ (by rw [hps]; simp [hp]) (Array.getElem?_eq_getElem hi)) hg.1 hg.2⟩
  ·rintro e w' ⟨v,E2,he,h1,h2,h3,h4⟩
   exact ⟨v,E2,he,h1,h2,h3,fun l hl=>(h4 l hl).imp id fun h=>⟨h.1,by have:=h.2; omega⟩⟩
end
end Go.Proofs.YtkfbakhnpfmfmaaGreatDoor
namespace Go.Proofs.YtkfbakhnpfmfmaaGreatDoor
set_option maxRecDepth 10000
open Go.RowKit
set_option linter.unusedVariables false
set_option linter.unusedSimpArgs false
def isFn (P : Program) (f : FuncId) : Prop := ∃ fn, P.funcs[f]? = some fn ∧ fn.body.isSome = true ∧ (fn.name == "runtime.NumGoroutine") = false
def popA (P:Program) (io:Bool) (wd ν:Nat) (o:Op) (t:List PV) (m:Mem) (K:PV→Mem→Prop):Prop:=
 match o with
 | .alloc T=>pBox ν m T (pz P T) K
 | .box T x=>pBox ν m T (pc (evP t x)) K
 | .buildSlice T n ps=>ZdJ P ν m T n (ps.toList.map fun q=>(q.1,evP t q.2)) K
 | .makeSlice T l c=>ZjL P ν m T (evP t l) (evP t c) K
 | .store T a x=>ZiD P m T (evP t a) (evP t x) K
 | .call c=>match c.callee with
  | .builtin .append=>match c.args.toList,c.argTypes.toList with
   | [s,x],[T,T']=>T=T'∧ZcU P ν m T (evP t s) (evP t x) K
   | _,_=>False
  | .value (.func f)=>isFn P f∧ZfX P io wd ν f (c.args.toList.map (evP t)) m K
  | .value (.tmp i)=>match t.getD i .un with
   | .fn f cs=>(∀ c∈cs,isR c=true)∧isFn P f∧ZfX P io wd ν f (c.args.toList.map (evP t)++cs) m K
   | _=>False
  | _=>popR P o t m fun p=>K p m
 | _=>popR P o t m fun p=>K p m
def gate (c:Bool) (y n:Prop):Prop:=(c=true→y)∧(c=false→n)
def putP (t:List PV) (d:Option Tmp) (p:PV):List PV:=
 match d with
 | some d=>t.set d p
 | none=>t
def pops (P:Program) (ops:Array Oper) (K:List PV→Mem→Prop):List Oper→List PV→Mem→Prop
 | [],t,m=>K t m
 | o::rest,t,m=>match o.guard with
  | none=>popA P true 16 m.length o.op t m fun p m'=>pops P ops K rest (putP t o.dst p) m'
  | some (j,b)=>match (ops[j]?).bind (·.dst) with
   | none=>pops P ops K rest (putP t o.dst .ud) m
   | some d=>match t.getD d .un,b with
    | .v (.bool c),true=>gate c (popA P true 16 m.length o.op (t.set d (.v (.bool true))) m fun p m'=>pops P ops K rest (putP (t.set d (.v (.bool true))) o.dst p) m') (pops P ops K rest (putP (t.set d (.v (.bool false))) o.dst .ud) m)
    | .v (.bool c),false=>gate c (pops P ops K rest (putP (t.set d (.v (.bool true))) o.dst .ud) m) (popA P true 16 m.length o.op (t.set d (.v (.bool false))) m fun p m'=>pops P ops K rest (putP (t.set d (.v (.bool false))) o.dst p) m')
    | .ud,_=>pops P ops K rest (putP t o.dst .ud) m
    | _,_=>False
section
variable {w:World} {O:Nat→Prop} {E:Env} {w0:World} {m:Mem} {P:Program}
def Zqc (P:Program) (w0:World) (O:Nat→Prop) (E:Env) (w:World) (wd ν:Nat) (a:Act) (o:Oper) (p:PV) (m':Mem):Prop:=
 ∀ (K:Act→World→Prop) (Q:Exit→Act→World→Prop),(∀ x w' E',Ok w0 O E' w' m'→Ext w w' E E'→Rep w' E' p x→(∀ l,E'.used l→E.used l∨(ν≤l∧l<ν+wd))→K (a.put o.dst x) w')→o.wp P a w K Q
theorem Zjt {wd ν:Nat} (hwd:0<wd) {a:Act} {o:Oper} {s:Sem Value} {p:PV} {m':Mem} (he:execOp a.eval o=do pure (Next.value (← s))) (h:Zi7 P w0 O E w ν s p m'):Zqc P w0 O E w wd ν a o p m':=by
 obtain ⟨x,w',E',hrun,h1,h2,h3,h4⟩:=h
 intro K Q hK
 unfold Oper.wp
 rw [he,ZtM hrun]
 exact hK x w' E' h1 h2 h3 fun l hl=>(h4 l hl).imp id fun h=>by omega
theorem Zvd {wd ν:Nat} (hk:Ok w0 O E w m) {a:Act} {o:Oper} {p:PV} (h:Zqd P E w a o p):Zqc P w0 O E w wd ν a o p m:=by
 obtain ⟨x,hrun,h3⟩:=h
 intro K Q hK
 unfold Oper.wp
 rw [hrun]
 exact hK x w E hk (Ext.refl w E) h3 fun l hl=>.inl hl
theorem ZkB {io : Bool} {wd ν : Nat} (hk : Ok w0 O E w m) (hν : ∀ i, i < wd → ¬ E.used (ν + i)) {t : List PV} {a : Act} {o : Oper} {f : FuncId} {ps : List PV} {vs : Array Value} (hf : isFn P f) (hrun : ∀ fn, P.funcs[f]? = some fn → fn.body.isSome = true → (fn.name == "runtime.NumGoroutine") = false → (execOp a.eval o).run P w = .ok (.enter f vs) w)
 (hl:vs.size=ps.length) (hr:∀ (j:Nat) (p:PV) (x:Value),ps[j]?=some p→vs[j]?=some x→Rep w E p x) {K:PV→Mem→Prop} (h:ZfX P io wd ν f ps m K):∃ p m',K p m'∧Zqc P w0 O E w wd ν a o p m':=by
 obtain ⟨fn,hf,hbody,hname⟩:=hf
 obtain ⟨p,m',hK,hcall⟩:=ZnM (P:=P) hk hν hl hr h
 refine ⟨p,m',hK,fun K Q hKK=>?_⟩
 unfold Oper.wp
 rw [hrun fn hf hbody hname,Oper.upon_enter]
 refine hcall.mono ?_
 rintro e w' ⟨v,E',rfl,h1,h2,h3,h4⟩
 exact hKK v w' E' h1 h2 h3 h4
theorem Zoe {t:List PV} {a:Act} (ev:∀ o:Operand,Rep w E (evP t o) (a.eval o)) (args:Array Operand) (j:Nat) (p:PV) (x:Value) (hp:(args.toList.map (evP t))[j]?=some p) (hx:(args.map a.eval)[j]?=some x):Rep w E p x:=by
 rw [List.getElem?_map] at hp
 rw [Array.getElem?_map] at hx
 cases hq:args[j]? with
 | none=>simp [hq] at hx
 | some q=>
  rw [Array.getElem?_toList,hq] at hp
  rw [hq] at hx
  simp only [Option.map_some,Option.some.injEq] at hp hx
  rw [← hp,← hx]
  exact ev q
theorem ZkJ (hk:Ok w0 O E w m) {io:Bool} {wd ν:Nat} (hwd:0<wd) (hν:∀ i,i<wd→¬ E.used (ν+i)) {t:List PV} {a:Act} (ht:RepT w E t a.tmps) {o:Oper} {K:PV→Mem→Prop} (h:popA P io wd ν o.op t m K):∃ p m',K p m'∧Zqc P w0 O E w wd ν a o p m':=by
 have ev:=Zjm ht
 have hν0:¬ E.used ν:=hν 0 hwd
 have red:popR P o.op t m (fun p=>K p m)→∃ p m',K p m'∧Zqc P w0 O E w wd ν a o p m':=fun h=>by
  obtain ⟨p,hK,hg⟩:=ZpZ hk ht h
  exact ⟨p,m,hK,Zvd hk hg⟩
 unfold popA at h
 split at h
 ·rename_i T ho
  obtain ⟨p,m',hK,hg⟩:=Zms (P:=P) hk hν0 h
  exact ⟨p,m',hK,Zjt hwd (by simp only [execOp,ho]) hg⟩
 ·rename_i T x ho
  obtain ⟨p,m',hK,hg⟩:=ZpE (P:=P) hk hν0 (ev x) h
  exact ⟨p,m',hK,Zjt hwd (by simp only [execOp,ho]) hg⟩
 ·rename_i T n ps ho
  obtain ⟨p,m',hK,hg⟩:=Zii (P:=P) hk hν0 (vs:=ps.map fun (i,x)=>(i,a.eval x)) (by simp) (fun j i p hj=>by
   rw [List.getElem?_map] at hj
   cases hq:ps.toList[j]? with
   | none=>rw [hq] at hj; cases hj
   | some q=>
    rw [hq] at hj
    simp only [Option.map_some,Option.some.injEq,Prod.mk.injEq] at hj
    obtain ⟨rfl,rfl⟩:=hj
    rw [Array.getElem?_toList] at hq
    exact ⟨a.eval q.2,by simp [hq],ev q.2⟩) h
  exact ⟨p,m',hK,Zjt hwd (by simp only [execOp,ho]) hg⟩
 ·rename_i T l c ho
  obtain ⟨p,m',hK,hg⟩:=ZnP (P:=P) hk hν0 (ev l) (ev c) h
  exact ⟨p,m',hK,Zjt hwd (by simp only [execOp,ho]) hg⟩
 ·rename_i T x y ho
  obtain ⟨m',hK,w',hrun,h1,h2⟩:=ZmB (P:=P) hk (ev x) (ev y) h
  refine ⟨_,m',hK,fun K Q hKK=>?_⟩
  unfold Oper.wp
  simp only [execOp,ho,Sem.run_bind,hrun,Result.andThen_ok,Sem.run_pure]
  exact hKK undef w' E h1 h2 (.c .ud) fun l hl=>.inl hl
 ·rename_i c ho
  split at h
  ·rename_i hc
   split at h
   ·rename_i s x T T' hx hT
    obtain ⟨rfl,h⟩:=h
    obtain ⟨callee,args,argTypes⟩:=c
    have ha:=Zhx hx
    have hTs:=Zhx hT
    simp only at hc ha hTs
    subst hc ha hTs
    obtain ⟨p,m',hK,hg⟩:=Zlk (P:=P) (ty:=o.type) hk hν0 (ev s) (ev x) h
    refine ⟨p,m',hK,Zjt hwd ?_ hg⟩
    simp [execOp,ho,resolve,invoke,builtin]
   ·exact h.elim
  ·rename_i f hc
   obtain ⟨hf,h⟩:=h
   obtain ⟨callee,args,argTypes⟩:=c
   simp only at hc h
   subst hc
   refine ZkB hk hν (t:=t) (vs:=args.map a.eval) hf (fun fn hf hbody hname=>?_) (by simp) (Zoe ev args) h
   have hname' : (fn.name = "runtime.NumGoroutine") = False := by simpa using hname
   have hbn':(fn.body=none)=False:=by
    simp only [eq_iff_iff,iff_false]
    intro hb; rw [hb] at hbody; cases hbody
   simp [execOp,ho,resolve,invoke,Act.eval,callFunc,Deferred.ofValue,hf,hname',hbn']
  ·rename_i i hc
   split at h
   ·rename_i f cs hti
    obtain ⟨_,hf,h⟩:=h
    obtain ⟨callee,args,argTypes⟩:=c
    simp only at hc h
    subst hc
    have hv:=ev (.tmp i)
    simp only [evP,hti] at hv
    obtain ⟨us,hus,hul,hur⟩:=hv.fn_inv
    refine ZkB hk hν (t:=t) (vs:=args.map a.eval++us) hf (fun fn hf hbody hname=>?_) (by simp [hul]) (fun j p x hp hx=>?_) h
    ·have hname' : (fn.name = "runtime.NumGoroutine") = False := by simpa using hname
     have hbn':(fn.body=none)=False:=by
      simp only [eq_iff_iff,iff_false]
      intro hb; rw [hb] at hbody; cases hbody
     simp [execOp,ho,resolve,invoke,hus,callFunc,Deferred.ofValue,hf,hname',hbn']
    ·have hal:(args.toList.map (evP t)).length=args.size:=by simp
     rcases Nat.lt_or_ge j args.size with hj | hj
     ·rw [List.getElem?_append_left (by rw [hal]; exact hj)] at hp
      rw [Array.getElem?_append_left (by simpa using hj)] at hx
      exact Zoe ev args j p x hp hx
     ·rw [List.getElem?_append_right (by rw [hal]; exact hj)] at hp
      rw [Array.getElem?_append_right (by simpa using hj)] at hx
      refine hur _ p x (by rw [hal] at hp; exact hp) (by simpa using hx)
   ·exact h.elim
  ·exact red h
 ·exact red h
theorem RepT.ext {w':World} {E':Env} {t:List PV} {tm:Array Value} (h:RepT w E t tm) (hx:Ext w w' E E'):RepT w' E' t tm:=⟨h.1,fun i p hp=>(h.2 i p hp).ext hx⟩
theorem RepT.put {t:List PV} {a:Act} (h:RepT w E t a.tmps) {p:PV} {x:Value} (hp:Rep w E p x) (d:Option Tmp):RepT w E (putP t d p) (a.put d x).tmps:=by
 cases d with
 | none=>exact h
 | some d=>
  refine ⟨by simp [Act.put,putP,h.1],fun i q hq=>?_⟩
  simp only [putP] at hq
  simp only [Act.put]
  by_cases e:d=i
  ·subst e
   have hd:d<t.length:=by have:=(List.getElem?_eq_some_iff.1 hq).1; simpa using this
   rw [List.getElem?_set_self hd] at hq
   cases hq
   have:(a.tmps.setIfInBounds d x).getD d undef=x:=by simp [Array.getD,h.1,hd]
   rw [this]; exact hp
  ·rw [List.getElem?_set_ne e] at hq
   have:(a.tmps.setIfInBounds d x).getD i undef=a.tmps.getD i undef:=by
    rw [Array.getD_eq_getD_getElem?,Array.getD_eq_getD_getElem?,Array.getElem?_setIfInBounds_ne e]
   rw [this]; exact h.2 i q hq
theorem RepT.bool {t:List PV} {tm:Array Value} (h:RepT w E t tm) {d:Nat} {c:Bool} (hc:t.getD d .un=.v (.bool c)):RepT w E (t.set d (.v (.bool c))) tm:=by
 refine ⟨by simp [h.1],fun i q hq=>?_⟩
 by_cases e:d=i
 ·subst e
  have hd:d<t.length:=by have:=(List.getElem?_eq_some_iff.1 hq).1; simpa using this
  rw [List.getElem?_set_self hd] at hq
  cases hq
  refine h.2 d _ ?_
  rw [← hc]
  simp [List.getD,List.getElem?_eq_getElem hd]
 ·rw [List.getElem?_set_ne e] at hq
  exact h.2 i q hq
theorem ZkC {o:Oper} (h:o.guard=none) (y:Nat→Option Bool):Region.wanted o y=true:=by simp [Region.wanted,h]
theorem ZoO {ops:Array Oper} {o:Oper} {j:Nat} {b:Bool} (h:o.guard=some (j,b)) (hd:(ops[j]?).bind (·.dst)=none) (tm:Array Value):Region.wanted o (yielded ops tm)=false:=by
 simp [Region.wanted,h,yielded,hd]
theorem ZgQ {ops:Array Oper} {o:Oper} {j d:Nat} {b c:Bool} (h:o.guard=some (j,b)) (hd:(ops[j]?).bind (·.dst)=some d) {t:List PV} {tm:Array Value} (ht:RepT w E t tm) (hc:t.getD d .un=.v (.bool c)):Region.wanted o (yielded ops tm)=(c == b):=by
 have hlt:d<t.length:=by
  rcases Nat.lt_or_ge d t.length with h | h
  ·exact h
  ·simp [List.getD,List.getElem?_eq_none h] at hc
 have hrep:=ht.2 d _ (List.getElem?_eq_getElem hlt)
 have hda:d<tm.size:=by rw [ht.1]; exact hlt
 have e1:tm.getD d undef=tm[d]:=by simp [Array.getD,hda]
 have e2:t.getD d .un=t[d]:=by simp [List.getD,List.getElem?_eq_getElem hlt]
 rw [e1,← e2,hc] at hrep
 have:=hrep.v_inv.1
 simp only [Region.wanted,h,yielded,hd,Option.bind_some,Array.getElem?_eq_getElem hda,this]
 cases c <;> cases b <;> rfl
theorem ZoP {ops:Array Oper} {o:Oper} {j d:Nat} {b:Bool} (h:o.guard=some (j,b)) (hd:(ops[j]?).bind (·.dst)=some d) {t:List PV} {tm:Array Value} (ht:RepT w E t tm) (hc:t.getD d .un=.ud):Region.wanted o (yielded ops tm)=false:=by
 have hlt:d<t.length:=by
  rcases Nat.lt_or_ge d t.length with h | h
  ·exact h
  ·simp [List.getD,List.getElem?_eq_none h] at hc
 have hrep:=ht.2 d _ (List.getElem?_eq_getElem hlt)
 have hda:d<tm.size:=by rw [ht.1]; exact hlt
 have e1:tm.getD d undef=tm[d]:=by simp [Array.getD,hda]
 have e2:t.getD d .un=t[d]:=by simp [List.getD,List.getElem?_eq_getElem hlt]
 rw [e1,← e2,hc] at hrep
 have hu:tm[d]=undef:=by
  generalize tm[d]=z at hrep
  cases hrep with
  | c h=>cases h; rfl
 simp only [Region.wanted,h,yielded,hd,Option.bind_some,Array.getElem?_eq_getElem hda,hu]
 rfl
theorem Zij {ops:Array Oper} {K:List PV→Mem→Prop} {Q:Exit→Act→World→Prop}:∀ (l:List Oper) (t:List PV) (m:Mem) (E:Env) (w:World) (a:Act),Ok w0 O E w m→a.defers=[]→RepT w E t a.tmps→pops P ops K l t m→
 (∀ t m E' w' (a':Act),K t m→Ok w0 O E' w' m→Ext w w' E E'→a'.defers=[]→RepT w' E' t a'.tmps→Q .normal a' w')→wpList P ops Q l a w
 | [],t,m,E,w,a,hk,hd,ht,h,hQ=>hQ t m E w a h hk (Ext.refl w E) hd ht
 | o::l,t,m,E,w,a,hk,hd,ht,h,hQ=>by
  have hdd:∀ x,(a.put o.dst x).defers=[]:=fun x=>by cases o.dst <;> exact hd
  have run:∀ t',RepT w E t' a.tmps→Region.wanted o (yielded ops a.tmps)=true→popA P true 16 m.length o.op t' m (fun p m'=>pops P ops K l (putP t' o.dst p) m')→wpList P ops Q (o::l) a w:=by
   intro t' ht' hw h
   obtain ⟨p,m',hK,hg⟩:=ZkJ hk (by omega) (fun i _ hu=>by have:=hk.used _ hu; omega) ht' h
   unfold wpList
   rw [if_pos hw]
   exact .inl (hg _ _ fun x w' E' h1 h2 h3 _=>Zij l _ m' E' w' _ h1 (hdd x) ((ht'.ext h2).put h3 o.dst) hK fun t m E2 w2 a2 k1 k2 k3=>hQ t m E2 w2 a2 k1 k2 (h2.trans k3))
  have pass:∀ t',RepT w E t' a.tmps→Region.wanted o (yielded ops a.tmps)=false→pops P ops K l (putP t' o.dst .ud) m→wpList P ops Q (o::l) a w:=by
   intro t' ht' hw h
   unfold wpList
   rw [hw,if_neg (by simp)]
   exact Zij l _ m E w _ hk (hdd _) (ht'.put (.c .ud) o.dst) h hQ
  simp only [pops] at h
  split at h
  ·rename_i hg; exact run t ht (ZkC hg _) h
  ·rename_i j b hg
   split at h
   ·rename_i hdn; exact pass t ht (ZoO hg hdn _) h
   ·rename_i d hdn
    split at h
    ·rename_i c hc
     have hb:=ZgQ hg hdn ht hc
     cases c with
     | true=>exact run _ (ht.bool hc) hb (h.1 rfl)
     | false=>exact pass _ (ht.bool hc) hb (h.2 rfl)
    ·rename_i c hc
     have hb:=ZgQ hg hdn ht hc
     cases c with
     | true=>exact pass _ (ht.bool hc) hb (h.1 rfl)
     | false=>exact run _ (ht.bool hc) hb (h.2 rfl)
    ·rename_i hc; exact pass t ht (ZoP hg hdn ht hc) h
    ·exact h.elim
end
def ZfZ:PV→List Nat
 | .ms l=>[l]
 | .ss l _ _=>[l]
 | .be l _ _=>[l]
 | _=>[]
def Zfz:PV→List Nat
 | .fn _ cs=>cs.flatMap ZfZ
 | p=>ZfZ p
def Zga:PV→List Nat
 | .ag cs=>cs.flatMap Zfz
 | p=>Zfz p
def ZdZ:PV→List Nat
 | .tu vs=>vs.flatMap Zga
 | p=>Zga p
def opM:Op→Bool
 | .move _ | .assign _ | .extract ..=>false
 | _=>true
def opR (o:Op) (t:List PV):List Nat:=match opM o with
 | true=>o.operands.toList.flatMap fun x=>ZdZ (evP t x)
 | false=>[]
def opW (o:Op) (t:List PV) (wd ν:Nat):List Nat:=
 match o with
 | .alloc _=>[ν]
 | .box _ _=>[ν]
 | .buildSlice _ _ _=>[ν]
 | .makeSlice _ _ _=>[ν]
 | .store _ a _=>ZdZ (evP t a)
 | .call c=>match c.callee with
  | .builtin .append=>ν::(c.args.toList.take 1).flatMap fun x=>ZdZ (evP t x)
  | .builtin _=>[]
  | _=>List.range' ν wd
 | _=>[]
abbrev Upd:=List (Nat × Option MB)
def app1 (m:Mem) (q:Nat × Option MB):Mem:=(m++List.replicate (q.1+1-m.length) none).set q.1 q.2
def app (u:Upd) (m:Mem):Mem:=u.foldl app1 m
theorem Zja {m:Mem} {l:Nat} (h:l<m.length) (x:Option MB):app [(l,x)] m=m.set l x:=by
 simp only [app,List.foldl_cons,List.foldl_nil,app1]
 rw [show l+1-m.length=0 by omega]; simp
def look (m:Mem) (l:Nat):Option MB:=(m[l]?).join
theorem Zc2 {m:Mem} {l:Nat} {mb:MB}:look m l=some mb↔m[l]?=some (some mb):=by
 unfold look
 cases h:m[l]? with
 | none=>simp
 | some x=>cases x <;> simp
theorem Zez {m:Mem} {l:Nat} (K:MB→Prop):live m l K=match look m l with
 | some mb=>K mb
 | none=>False:=by
 unfold look live
 cases h:m[l]? with
 | none=>rfl
 | some x=>cases x <;> rfl
structure Same (o:Op) (t:List PV) (m:Mem) (t2:List PV) (m2:Mem):Prop where
 te:∀ x∈o.operands.toList,evP t2 x=evP t x
 me:∀ l∈opR o t,look m2 l=look m l
section
variable {P:Program} {m m2:Mem} {t t2:List PV} {o:Op}
theorem Same.refs (h:Same o t m t2 m2) (hm:opM o=true) {x:Operand} (hx:x∈o.operands.toList) {l:Nat} (hl:l∈ZdZ (evP t x)):look m2 l=look m l:=h.me l (by unfold opR; rw [hm]; exact List.mem_flatMap.2 ⟨x,hx,hl⟩)
theorem ZcD {l:Nat} (h:look m2 l=look m l) (K:MB→Prop):live m2 l K=live m l K:=by rw [Zez,Zez,h]
theorem ZrY {p:PV} (h:∀ l∈ZdZ p,look m2 l=look m l):rdp m2 p=rdp m p:=by
 cases p with
 | be l i o=>
  have e:=h l (by simp [ZdZ,Zga,Zfz,ZfZ])
  have key:∀ m:Mem,rdp m (.be l i o)=(look m l).bind fun mb=>(mb.es[i]?).map (·.drop o):=by
   intro m
   unfold look rdp
   cases h:m[l]? with
   | none=>simp [h]
   | some x=>cases x <;> simp [h]
  rw [key,key,e]
 | _=>rfl
theorem ZpJ {p:PV} (h:∀ l∈ZdZ p,look m2 l=look m l):pNil m2 p=pNil m p:=by
 funext K
 cases p with
 | be l i o=>simp only [pNil,ZcD (h l (by simp [ZdZ,Zga,Zfz,ZfZ]))]
 | _=>rfl
theorem Zmu {S D:TypeId} {p:PV} (h:∀ l∈ZdZ p,look m2 l=look m l):ZgC P m2 S D p=ZgC P m S D p:=by
 funext K
 cases p with
 | ms l=>simp only [ZgC,ZcD (h l (by simp [ZdZ,Zga,Zfz,ZfZ]))]
 | _=>rfl
theorem Zmz {T:TypeId} {p:PV} {lo hi:Option PV} (h:∀ l∈ZdZ p,look m2 l=look m l):ZdK P m2 T p lo hi=ZdK P m T p lo hi:=by
 funext K
 cases p with
 | ms l=>
  have e:=ZcD (m:=m) (m2:=m2) (h l (by simp [ZdZ,Zga,Zfz,ZfZ]))
  cases hu:P.underlying T with
  | none=>simp only [ZdK,hu]
  | some d=>cases d <;> simp only [ZdK,hu,e]
 | ss l a b=>
  have e:=ZcD (m:=m) (m2:=m2) (h l (by simp [ZdZ,Zga,Zfz,ZfZ]))
  cases hu:P.underlying T with
  | none=>simp only [ZdK,hu]
  | some d=>cases d <;> simp only [ZdK,hu,e]
 | v x=>
  unfold ZdK
  cases hu:P.underlying T with
  | none=>rfl
  | some d=>cases d <;> first | rfl | (cases x <;> first | rfl | (rename_i A n c; cases A <;> first | rfl | (cases n <;> first | rfl | (cases c <;> rfl))))
 | _=>
  unfold ZdK
  cases hu:P.underlying T with
  | none=>rfl
  | some d=>cases d <;> rfl
theorem ZiM {T:TypeId} {p:PV} {f:Nat} (h:∀ l∈ZdZ p,look m2 l=look m l):ZcV P m2 T p f=ZcV P m T p f:=by
 funext K
 cases p with
 | be l i o=>
  have e:=ZcD (m:=m) (m2:=m2) (h l (by simp [ZdZ,Zga,Zfz,ZfZ]))
  simp only [ZcV,e]
 | _=>rfl
theorem ZiO {T:TypeId} {p q:PV} (h:∀ l∈ZdZ p,look m2 l=look m l):ZY P m2 T p q=ZY P m T p q:=by
 funext K
 cases p with
 | ms l=>
  have e:=ZcD (m:=m) (m2:=m2) (h l (by simp [ZdZ,Zga,Zfz,ZfZ]))
  simp only [ZY,e]
 | ss l a b=>
  have e:=ZcD (m:=m) (m2:=m2) (h l (by simp [ZdZ,Zga,Zfz,ZfZ]))
  simp only [ZY,e]
 | _=>rfl
theorem ZpG {T:TypeId} {p:PV} (h:∀ l∈ZdZ p,look m2 l=look m l):pLen P m2 T p=pLen P m T p:=by
 funext K
 cases p with
 | ms l=>
  have e:=ZcD (m:=m) (m2:=m2) (h l (by simp [ZdZ,Zga,Zfz,ZfZ]))
  cases hu:P.underlying T with
  | none=>simp only [pLen,hu]
  | some d=>cases d <;> simp only [pLen,hu,e]
 | ss l a b=>
  have e:=ZcD (m:=m) (m2:=m2) (h l (by simp [ZdZ,Zga,Zfz,ZfZ]))
  cases hu:P.underlying T with
  | none=>simp only [pLen,hu]
  | some d=>cases d <;> simp only [pLen,hu,e]
 | v x=>
  unfold pLen
  cases hu:P.underlying T with
  | none=>rfl
  | some d=>cases d <;> first | rfl | (cases x <;> first | rfl | (rename_i A n c; cases A <;> first | rfl | (cases n <;> first | rfl | (cases c <;> rfl))))
 | _=>
  unfold pLen
  cases hu:P.underlying T with
  | none=>rfl
  | some d=>cases d <;> rfl
theorem Zn1 {p:PV} (h:∀ l∈ZdZ p,look m2 l=look m l):Zgc m2 p=Zgc m p:=by
 cases p with
 | ms l=>
  have e:=h l (by simp [ZdZ,Zga,Zfz,ZfZ])
  have key:∀ m:Mem,Zgc m (.ms l)=(look m l).map (·.es):=by
   intro m
   unfold look Zgc
   cases h:m[l]? with
   | none=>simp [h]
   | some x=>cases x <;> simp [h]
  rw [key,key,e]
 | ss l a b=>
  have e:=h l (by simp [ZdZ,Zga,Zfz,ZfZ])
  have key:∀ m:Mem,Zgc m (.ss l a b)=(look m l).map fun mb=>(mb.es.drop a).take (b-a):=by
   intro m
   unfold look Zgc
   cases h:m[l]? with
   | none=>simp [h]
   | some x=>cases x <;> simp [h]
  rw [key,key,e]
 | v x=>cases x <;> first | rfl | (rename_i A n c; cases A <;> first | rfl | (cases n <;> rfl))
 | _=>rfl
theorem Zcv {p:PV} (h:∀ l∈Zfz p,look m2 l=look m l):ZhU m2 p=ZhU m p:=by
 funext K
 cases p with
 | ms l=>simp only [ZhU]; rw [ZcD (h l (by simp [Zfz,ZfZ]))]
 | ss l a b=>simp only [ZhU]; rw [ZcD (h l (by simp [Zfz,ZfZ]))]
 | _=>rfl
theorem ZjZ:∀ {cs:List PV},(∀ l∈cs.flatMap Zfz,look m2 l=look m l)→ZiQ m2 cs=ZiQ m cs
 | [],_=>by funext K; rfl
 | c::cs,h=>by
  funext K
  simp only [ZiQ]
  rw [Zcv fun l hl=>h l (by simp [hl]),ZjZ fun l hl=>h l (by
   rw [List.flatMap_cons]; exact List.mem_append_right _ hl)]
theorem Zn0 {p:PV} (h:∀ l∈ZdZ p,look m2 l=look m l):ZiR m2 p=ZiR m p:=by
 funext K
 cases p with
 | ag cs=>simp only [ZiR]; rw [ZjZ fun l hl=>h l hl]
 | tu vs=>rfl
 | v x=>exact congrFun (Zcv (p:=.v x) fun l hl=>h l hl) K
 | ud=>exact congrFun (Zcv (p:=.ud) fun l hl=>h l hl) K
 | un=>exact congrFun (Zcv (p:=.un) fun l hl=>h l hl) K
 | sl es=>exact congrFun (Zcv (p:=.sl es) fun l hl=>h l hl) K
 | rp cs=>exact congrFun (Zcv (p:=.rp cs) fun l hl=>h l hl) K
 | ms l=>exact congrFun (Zcv (p:=.ms l) fun l hl=>h l hl) K
 | ss l a b=>exact congrFun (Zcv (p:=.ss l a b) fun l hl=>h l hl) K
 | be l i o=>exact congrFun (Zcv (p:=.be l i o) fun l hl=>h l hl) K
 | fn f cs=>exact congrFun (Zcv (p:=.fn f cs) fun l hl=>h l hl) K
theorem ZjY:∀ {cs:List PV},(∀ l∈cs.flatMap ZdZ,look m2 l=look m l)→Zio m2 cs=Zio m cs
 | [],_=>by funext K; rfl
 | c::cs,h=>by
  funext K
  simp only [Zio]
  rw [Zn0 fun l hl=>h l (by simp [hl]),ZjY fun l hl=>h l (by
   rw [List.flatMap_cons]; exact List.mem_append_right _ hl)]
theorem ZjH {xs:List Operand} (h:∀ x∈xs,evP t2 x=evP t x):xs.map (evP t2)=xs.map (evP t):=List.map_congr_left h
theorem ZpY (h:Same o t m t2 m2):popR P o t2 m2=popR P o t m:=by
 have hr:=fun (hm:opM o=true) {x:Operand} (hx:x∈o.operands.toList)=>(fun l (hl:l∈ZdZ (evP t x))=>h.refs hm hx hl)
 have ht:=fun {x:Operand} (hx:x∈o.operands.toList)=>h.te x hx
 funext K
 cases o with
 | move x=>simp only [popR]; rw [ht (by simp [Op.operands])]
 | assign x=>simp only [popR]; rw [ht (by simp [Op.operands])]
 | pick c a b=>simp only [popR]; rw [ht (x:=c) (by simp [Op.operands]),ht (x:=a) (by simp [Op.operands]),ht (x:=b) (by simp [Op.operands])]
 | load T x=>simp only [popR]; rw [ht (x:=x) (by simp [Op.operands]),ZrY (hr rfl (x:=x) (by simp [Op.operands]))]
 | nilCheck x=>simp only [popR]; rw [ht (x:=x) (by simp [Op.operands]),ZpJ (hr rfl (x:=x) (by simp [Op.operands]))]
 | binOp op T x y Ty=>simp only [popR]; rw [ht (x:=x) (by simp [Op.operands]),ht (x:=y) (by simp [Op.operands])]
 | unOp op T x=>simp only [popR]; rw [ht (x:=x) (by simp [Op.operands])]
 | convert S D x=>simp only [popR]; rw [ht (x:=x) (by simp [Op.operands]),Zmu (hr rfl (x:=x) (by simp [Op.operands]))]
 | makeFunc fn first cs=>
  simp only [popR]
  rw [ZjH fun x hx=>ht (x:=x) (by simp only [Op.operands,Array.toList_append,List.mem_append]; exact .inr hx)]
 | slice T x lo hi mx=>
  cases mx with
  | some _=>rfl
  | none=>
   simp only [popR]
   rw [ht (x:=x) (by simp [Op.operands]),Zmz (hr rfl (x:=x) (by simp [Op.operands]))]
   have e1:lo.map (evP t2)=lo.map (evP t):=by
    cases lo with
    | none=>rfl
    | some z=>simp only [Option.map_some]; rw [ht (x:=z) (by simp [Op.operands])]
   have e2:hi.map (evP t2)=hi.map (evP t):=by
    cases hi with
    | none=>rfl
    | some z=>simp only [Option.map_some]; rw [ht (x:=z) (by simp [Op.operands])]
   rw [e1,e2]
 | fieldAddr S x f=>simp only [popR]; rw [ht (x:=x) (by simp [Op.operands]),ZiM (hr rfl (x:=x) (by simp [Op.operands]))]
 | field T x f=>simp only [popR]; rw [ht (x:=x) (by simp [Op.operands])]
 | indexAddr T x i=>simp only [popR]; rw [ht (x:=x) (by simp [Op.operands]),ht (x:=i) (by simp [Op.operands]),ZiO (hr rfl (x:=x) (by simp [Op.operands]))]
 | index T x i=>simp only [popR]; rw [ht (x:=x) (by simp [Op.operands]),ht (x:=i) (by simp [Op.operands])]
 | extract x i=>simp only [popR]; rw [ht (x:=x) (by simp [Op.operands])]
 | build T ps=>
  simp only [popR]
  have:(ps.toList.map fun q=>(q.1,evP t2 q.2))=ps.toList.map fun q=>(q.1,evP t q.2):=List.map_congr_left fun q hq=>by
   rw [ht (x:=q.2) (by simp only [Op.operands]; exact List.mem_map_of_mem hq)]
  rw [this]
 | call c=>
  have ha:∀ x∈c.args.toList,x∈(Op.call c).operands.toList:=fun x hx=>by
   simp only [Op.operands,Call.operands,Array.toList_append,List.mem_append]; exact .inr hx
  simp only [popR]
  have e:=ZjH (xs:=c.args.toList) fun x hx=>ht (ha x hx)
  split
  ·split
   ·rename_i x T hx hT
    have hx':x∈c.args.toList:=by rw [hx]; simp
    rw [ht (ha x hx'),ZpG (hr rfl (ha x hx'))]
   ·rfl
  ·rw [e]
  ·rw [e]
  ·rfl
 | _=>rfl
theorem Ztz {K:PV→Prop} (h:popR P o t m K):∃ p,K p∧popR P o t m fun p'=>p'=p:=by
 have L:∀ {T:TypeId} {cs:Option (List PV)} {K:PV→Prop},Zg1 P T cs K→∃ p,K p∧Zg1 P T cs fun p'=>p'=p:=by
  intro T cs K h
  unfold Zg1 at *
  split at h
  ·rename_i d cs' hd hcs
   split at h
   ·rename_i hag; exact ⟨_,h.2,by simp only [hag]; exact ⟨h.1,trivial⟩⟩
   ·rename_i hag
    split at h
    ·exact ⟨_,h,by simp only [hag]⟩
    ·exact h.elim
  ·exact h.elim
 have Lv:∀ {l:Nat} {A:MB→Prop},live m l A→∃ mb,m[l]?=some (some mb)∧A mb:=fun h=>Zcy h
 have Lw:∀ {l:Nat} {A:MB→Prop} {mb:MB},m[l]?=some (some mb)→A mb→live m l A:=by
  intro l A mb h1 h2
  unfold live
  rw [h1]; exact h2
 unfold popR at *
 split at h <;> (try exact h.elim)
 ·exact ⟨_,h,rfl⟩
 ·exact ⟨_,h,rfl⟩
 ·split at h
  ·rename_i hc; exact ⟨_,h,by simp only [hc]⟩
  ·exact h.elim
 ·exact L h
 ·unfold pNil at *
  split at h
  ·rename_i hx
   obtain ⟨mb,h1,h2⟩:=Lv h
   exact ⟨_,h2,by simp only [hx]; exact Lw h1 trivial⟩
  ·rename_i hx; exact ⟨_,h,by simp only [hx]⟩
  ·exact h.elim
 ·unfold pBin at *
  split at h
  ·rename_i h1 h2
   unfold optK at *
   split at h
   ·rename_i hr; exact ⟨_,h,by simp only [h1,h2,hr]⟩
   ·exact h.elim
  ·rename_i h1 h2
   unfold eqK at *
   obtain ⟨hg,h⟩:=h
   split at h
   ·rename_i hr1 hr2
    split at h
    ·exact ⟨_,h,by simp only [h1,h2,hg,hr1,hr2]; exact ⟨trivial,trivial⟩⟩
    ·exact ⟨_,h,by simp only [h1,h2,hg,hr1,hr2]; exact ⟨trivial,trivial⟩⟩
    ·exact h.elim
   ·exact h.elim
  ·exact h.elim
 ·unfold pUn at *
  split at h
  ·rename_i h1; exact ⟨_,h,by simp only [h1]⟩
  ·rename_i h1; exact ⟨_,h,by simp only [h1]⟩
  ·exact h.elim
 ·unfold ZgC at *
  split at h
  ·rename_i h1
   split at h
   ·rename_i h2 h3
    obtain ⟨he,h⟩:=h
    obtain ⟨mb,g1,gk,h⟩:=Lv h
    split at h
    ·rename_i hb
     exact ⟨_,h,by simp only [h1,h2,h3]; exact ⟨he,Lw g1 ⟨gk,by simp only [hb]⟩⟩⟩
    ·exact h.elim
   ·exact h.elim
  ·rename_i h0
   have key:∀ {S D:TypeId} {x:PV} {K:PV→Prop},ZnN P S D x K→∃ p,K p∧ZnN P S D x fun p'=>p'=p:=by
    intro S D x K h
    unfold ZnN at *
    split at h
    ·rename_i h1 h2; exact ⟨_,h,by simp only [h1,h2]⟩
    ·rename_i h1 h2; exact ⟨_,h,by simp only [h1,h2]⟩
    ·exact h.elim
   obtain ⟨p,h1,h2⟩:=key h
   exact ⟨p,h1,h2⟩
 ·rename_i fn first cs
  split at h
  ·rename_i hf; exact ⟨_,h,by simp only [hf]⟩
  ·exact h.elim
 ·split at h
  ·unfold ZdK at *
   split at h
   ·rename_i h1 h2
    split at h
    ·rename_i h3 h4
     obtain ⟨a,b,c,d⟩:=h
     exact ⟨_,d,by simp only [h1,h2,h3,h4]; exact ⟨a,b,c,trivial⟩⟩
    ·exact h.elim
   ·rename_i h1 h2
    split at h
    ·rename_i h3 h4
     obtain ⟨a,b,c,d,e,f⟩:=h
     exact ⟨_,f,by simp only [h1,h2,h3,h4]; exact ⟨a,b,c,d,e,trivial⟩⟩
    ·exact h.elim
   ·rename_i h1 h2
    obtain ⟨mb,g1,h⟩:=Lv h
    split at h
    ·rename_i h3 h4
     obtain ⟨a,b,c,d,e,f⟩:=h
     exact ⟨_,f,by simp only [h1,h2]; exact Lw g1 (by simp only [h3,h4]; exact ⟨a,b,c,d,e,trivial⟩)⟩
    ·exact h.elim
   ·rename_i h1 h2
    obtain ⟨mb,g1,h⟩:=Lv h
    split at h
    ·rename_i h3 h4
     obtain ⟨a,b,c,d,e,f⟩:=h
     exact ⟨_,f,Lw g1 ⟨a,b,c,d,e,rfl⟩⟩
    ·exact h.elim
   ·rename_i h1 h2
    split at h
    ·rename_i h3 h4
     obtain ⟨a,b,c,d,e⟩:=h
     exact ⟨_,e,by simp only [h1,h2,h3,h4]; exact ⟨a,b,c,d,trivial⟩⟩
    ·exact h.elim
   ·exact h.elim
  ·exact h.elim
 ·unfold ZcV at *
  split at h
  ·rename_i h1
   split at h
   ·rename_i h2
    obtain ⟨hp,h⟩:=h
    split at h
    ·rename_i h3
     obtain ⟨mb,g1,h⟩:=Lv h
     exact ⟨_,h,by simp only [h1,h2,h3]; exact ⟨hp,Lw g1 trivial⟩⟩
    ·rename_i h3; exact ⟨_,h,by simp only [h1,h2,h3]; exact ⟨hp,trivial⟩⟩
    ·exact h.elim
   ·exact h.elim
  ·exact h.elim
 ·unfold ZiC at *
  split at h
  ·rename_i h1
   split at h
   ·rename_i h2 h3
    obtain ⟨p,h4,h5⟩:=L h
    exact ⟨p,h4,h5⟩
   ·exact h.elim
  ·exact h.elim
 ·unfold ZY at *
  split at h
  ·rename_i h1 h2
   split at h
   ·rename_i h3
    obtain ⟨a,b,c,d,e⟩:=h
    exact ⟨_,e,by simp only [h1,h2,h3]; exact ⟨a,b,c,d,trivial⟩⟩
   ·rename_i h3
    obtain ⟨mb,g1,a,b,c,d⟩:=Lv h
    exact ⟨_,d,by simp only [h1,h2,h3]; exact Lw g1 ⟨a,b,c,trivial⟩⟩
   ·rename_i h3
    obtain ⟨mb,g1,a,b,c,d⟩:=Lv h
    exact ⟨_,d,by simp only [h1,h2,h3]; exact Lw g1 ⟨a,b,c,trivial⟩⟩
   ·exact h.elim
  ·exact h.elim
 ·unfold ZgD at *
  split at h
  ·rename_i h1 h2 h3
   obtain ⟨a,b,c⟩:=h
   exact ⟨_,c,by simp only [h1,h2,h3]; exact ⟨a,b,trivial⟩⟩
  ·exact h.elim
 ·unfold pExt at *
  split at h
  ·rename_i h1
   split at h
   ·rename_i h2; exact ⟨_,h,by simp only [h1,h2]⟩
   ·exact h.elim
  ·exact h.elim
 ·unfold ZiB at *
  split at h
  ·rename_i h1
   obtain ⟨hp,h⟩:=h
   split at h
   ·rename_i h2
    split at h
    ·rename_i h3; exact ⟨_,h,by simp only [h1,h2,h3]; exact ⟨hp,trivial⟩⟩
    ·exact h.elim
   ·exact h.elim
  ·exact h.elim
 ·split at h
  ·rename_i hc
   split at h
   ·rename_i h1 h2
    unfold pLen at *
    split at h
    ·rename_i h3 h4; exact ⟨_,h,by simp only [h3,h4]⟩
    ·rename_i h3 h4; exact ⟨_,h,by simp only [h3,h4]⟩
    ·rename_i h3 h4; exact ⟨_,h,by simp only [h3,h4]⟩
    ·rename_i h3 h4
     obtain ⟨mb,g1,h⟩:=Lv h
     exact ⟨_,h,by simp only [h3,h4]; exact Lw g1 rfl⟩
    ·rename_i h3 h4
     obtain ⟨mb,g1,h⟩:=Lv h
     exact ⟨_,h,Lw g1 rfl⟩
    ·exact h.elim
   ·exact h.elim
  ·rename_i hc
   unfold Zfx at *
   split at h
   ·rename_i h1; exact ⟨_,h,by simp only [h1]; simp⟩
   ·exact h.elim
  ·rename_i hc
   unfold Zfx at *
   split at h
   ·rename_i h1; exact ⟨_,h,by simp only [h1]; simp⟩
   ·exact h.elim
  ·exact h.elim
end
section
variable {P:Program} {m m2:Mem} {t t2:List PV} {o:Op}
def ZhX (σ:Nat→Nat):Nat→Mem→Upd
 | _,[]=>[]
 | ν,x::m1=>(ν,x.map (Ze5 σ))::ZhX σ (ν+1) m1
theorem ZeU (σ:Nat→Nat):∀ (ν:Nat) (m1 m:Mem),ZcW σ ν m1 m=app (ZhX σ ν m1) m
 | ν,[],m=>by unfold ZcW; rfl
 | ν,some mb::m1,m=>by unfold ZcW; rw [ZeU σ (ν+1) m1]; rfl
 | ν,none::m1,m=>by unfold ZcW; rw [ZeU σ (ν+1) m1]; rfl
theorem ZgY (σ:Nat→Nat):∀ (ν:Nat) (m1:Mem) (q:Nat × Option MB),q∈ZhX σ ν m1→ν≤q.1∧q.1<ν+m1.length
 | ν,[],q,h=>by simp [ZhX] at h
 | ν,x::m1,q,h=>by
  simp only [ZhX,List.mem_cons] at h
  rcases h with rfl | h
  ·simp
  ·have:=ZgY σ (ν+1) m1 q h
   simp only [List.length_cons]; omega
theorem Zie {ν k n:Nat}:k∈List.range' ν n↔ν≤k∧k<ν+n:=List.mem_range'_1
theorem ZjK {f:FuncId} {ps:List PV} {wd ν:Nat} {K:PV→Mem→Prop} (h:ZfX P false wd ν f ps m K):
 ∃ p u,K p (app u m)∧(∀ q∈u,q.1∈List.range' ν wd)∧∀ m2,(∀ l∈ps.flatMap ZdZ,look m2 l=look m l)→ZfX P false wd ν f ps m2 fun p' m'=>p'=p∧m'=app u m2:=by
 rcases h with ⟨r,m1,hs,h16,hm1,hgr,hK⟩ | ⟨ρ,m0,qs,r,m1,hio,hc,hle,h16,hps,hqs,hn,hin,hm1,hgr,hK⟩
 ·refine ⟨renV (sig [] ν) r,ZhX (sig [] ν) ν m1,by rw [← ZeU]; exact hK,fun q hq=>?_,fun m2 hm2=>.inl ⟨r,m1,by rw [ZjY hm2]; exact hs,h16,hm1,hgr,rfl,ZeU _ _ _ _⟩⟩
  rw [Zie]
  have:=ZgY _ _ _ q hq
  omega
 ·obtain rfl:ρ=[]:=by simpa using hio
  have h0:m0=[]:=by
   have:=(ZfR hin).1
   exact List.length_eq_zero_iff.1 this.symm
  subst h0
  simp only [List.length_nil,List.drop_zero,ZeK] at hK
  refine ⟨renV (sig [] ν) r,ZhX (sig [] ν) ν m1,by rw [← ZeU]; exact hK,fun q hq=>?_,fun m2 hm2=>.inr ⟨[],[],qs,r,m1,.inr rfl,hc,hle,h16,hps,hqs,hn,trivial,hm1,hgr,rfl,?_⟩⟩
  ·rw [Zie]
   have:=ZgY _ _ _ q hq
   simp only [List.length_nil] at h16
   omega
  ·simp only [List.length_nil,List.drop_zero,ZeK]; exact ZeU _ _ _ _
theorem ZpV {wd ν:Nat} {K:PV→Mem→Prop} (h:popA P false wd ν o t m K):
 ∃ p u,K p (app u m)∧(∀ q∈u,q.1∈opW o t wd ν)∧∀ t2 m2,Same o t m t2 m2→popA P false wd ν o t2 m2 fun p' m'=>p'=p∧m'=app u m2:=by
 have red:∀ {K:PV→Prop},popR P o t m K→∃ p,K p∧∀ t2 m2,Same o t m t2 m2→popR P o t2 m2 fun p'=>p'=p:=by
  intro K h
  obtain ⟨p,h1,h2⟩:=Ztz h
  exact ⟨p,h1,fun t2 m2 hs=>by rw [ZpY hs]; exact h2⟩
 have imp:∀ {t2 m2 p},popR P o t2 m2 (fun p'=>p'=p)→popR P o t2 m2 fun p'=>p'=p∧m2=app [] m2:=by
  intro t2 m2 p h
  have:(fun p'=>p'=p∧m2=app [] m2)=fun p'=>p'=p:=by funext p'; simp [app]
  rw [this]; exact h
 cases o with
 | alloc T=>
  simp only [popA] at *
  unfold pBox at *
  split at h
  ·rename_i c cs hz
   exact ⟨_,[(ν,some _)],h,by simp [opW],fun t2 m2 _=>by simp only [hz]; exact ⟨trivial,rfl⟩⟩
  ·exact h.elim
 | box T x=>
  simp only [popA] at *
  unfold pBox at *
  split at h
  ·rename_i c cs hz
   exact ⟨_,[(ν,some _)],h,by simp [opW],fun t2 m2 hs=>by rw [hs.te x (by simp [Op.operands])]; simp only [hz]; exact ⟨trivial,rfl⟩⟩
  ·exact h.elim
 | buildSlice T n ps=>
  simp only [popA] at *
  have e:∀ {t2 m2},Same (.buildSlice T n ps) t m t2 m2→(ps.toList.map fun q=>(q.1,evP t2 q.2))=ps.toList.map fun q=>(q.1,evP t q.2):=fun hs=>List.map_congr_left fun q hq=>by
   rw [hs.te q.2 (by simp only [Op.operands]; exact List.mem_map_of_mem hq)]
  unfold ZdJ at *
  split at h
  ·rename_i e1 hu
   split at h
   ·rename_i zc hz
    obtain ⟨h1,h2,h3,h⟩:=h
    split at h
    ·rename_i cs hf
     exact ⟨_,[(ν,some _)],h,by simp [opW],fun t2 m2 hs=>by rw [e hs]; simp only [hu,hz,hf]; exact ⟨h1,h2,h3,trivial,rfl⟩⟩
    ·exact h.elim
   ·exact h.elim
  ·exact h.elim
 | makeSlice T l c=>
  simp only [popA] at *
  unfold ZjL at *
  split at h
  ·rename_i e n n' hu hl hc
   split at h
   ·rename_i zc hz
    obtain ⟨h1,h2,h3,h4,h5,h6,h⟩:=h
    exact ⟨_,[(ν,some _)],h,by simp [opW],fun t2 m2 hs=>by
     rw [hs.te l (by simp [Op.operands]),hs.te c (by simp [Op.operands])]
     simp only [hu,hl,hc,hz]; exact ⟨h1,h2,h3,h4,h5,h6,trivial,rfl⟩⟩
   ·exact h.elim
  ·exact h.elim
 | store T x y=>
  simp only [popA] at *
  unfold ZiD at *
  split at h
  ·rename_i l i o qs hx hq
   obtain ⟨mb,hm,h⟩:=Zcy h
   split at h
   ·rename_i cs hcs
    obtain ⟨h1,h2,h3,h⟩:=h
    have hl:l<m.length:=(List.getElem?_eq_some_iff.1 hm).1
    refine ⟨_,[(l,some _)],by rw [Zja hl]; exact h,by simp [opW,hx,ZdZ,Zga,Zfz,ZfZ],fun t2 m2 hs=>?_⟩
    have hm2:m2[l]?=some (some mb):=Zc2.1 ((hs.refs rfl (x:=x) (by simp [Op.operands]) (by simp [hx,ZdZ,Zga,Zfz,ZfZ])).trans (Zc2.2 hm))
    rw [hs.te x (by simp [Op.operands]),hs.te y (by simp [Op.operands])]
    simp only [hx,hq,live,hm2,hcs]
    exact ⟨h1,h2,h3,trivial,(Zja (List.getElem?_eq_some_iff.1 hm2).1 _).symm⟩
   ·exact h.elim
  ·exact h.elim
 | call c=>
  have ha:∀ x∈c.args.toList,x∈(Op.call c).operands.toList:=fun x hx=>by
   simp only [Op.operands,Call.operands,Array.toList_append,List.mem_append]; exact .inr hx
  have hmap:∀ {t2 m2},Same (.call c) t m t2 m2→c.args.toList.map (evP t2)=c.args.toList.map (evP t):=fun hs=>ZjH fun x hx=>hs.te x (ha x hx)
  have hrefs:∀ {t2 m2},Same (.call c) t m t2 m2→∀ l∈(c.args.toList.map (evP t)).flatMap ZdZ,look m2 l=look m l:=fun hs l hl=>by
   simp only [List.mem_flatMap,List.mem_map] at hl
   obtain ⟨p,⟨x,hx,rfl⟩,hl⟩:=hl
   exact hs.refs rfl (ha x hx) hl
  simp only [popA] at *
  split at h
  ·rename_i hc
   split at h
   ·rename_i s x T T' hx hT
    obtain ⟨hTT,h⟩:=h
    have hs':s∈c.args.toList:=by rw [hx]; simp
    have hx':x∈c.args.toList:=by rw [hx]; simp
    have hrw:∀ {t2 m2},Same (.call c) t m t2 m2→evP t2 s=evP t s∧evP t2 x=evP t x∧Zgc m2 (evP t x)=Zgc m (evP t x):=fun hs=>⟨hs.te s (ha s hs'),hs.te x (ha x hx'),Zn1 fun l hl=>hs.refs rfl (ha x hx') hl⟩
    unfold ZcU at h
    split at h
    ·rename_i e hu
     split at h
     ·rename_i zc es hz hes
      obtain ⟨h1,h2,h3,h⟩:=h
      split at h
      ·rename_i l hsl
       obtain ⟨mb,hm,g1,g2,g3,g4,h⟩:=Zcy h
       have hl:l<m.length:=(List.getElem?_eq_some_iff.1 hm).1
       refine ⟨_,[(l,none),(ν,some _)],by simp only [app,List.foldl_cons,List.foldl_nil]; rw [show app1 m (l,none)=m.set l none from Zja hl none]; exact h,?_,fun t2 m2 hs=>?_⟩
       ·intro q hq
        simp only [opW,hc,List.mem_cons,List.not_mem_nil,or_false] at hq ⊢
        rcases hq with rfl | rfl
        ·exact .inr (List.mem_flatMap.2 ⟨s,by rw [hx]; simp,by simp [hsl,ZdZ,Zga,Zfz,ZfZ]⟩)
        ·exact .inl rfl
       ·obtain ⟨e1,e2,e3⟩:=hrw hs
        have hm2:m2[l]?=some (some mb):=Zc2.1 ((hs.refs rfl (ha s hs') (by simp [hsl,ZdZ,Zga,Zfz,ZfZ])).trans (Zc2.2 hm))
        refine ⟨hTT,?_⟩
        unfold ZcU
        rw [e1,e2]
        simp only [hu,hz,e3,hes,hsl,live,hm2]
        refine ⟨h1,h2,h3,g1,g2,g3,g4,trivial,?_⟩
        simp only [app,List.foldl_cons,List.foldl_nil]; rw [show app1 m2 (l,none)=m2.set l none from Zja (List.getElem?_eq_some_iff.1 hm2).1 none]; rfl
      ·rename_i hsl
       obtain ⟨g3,g4,h⟩:=h
       refine ⟨_,[(ν,some _)],h,by simp [opW,hc],fun t2 m2 hs=>?_⟩
       obtain ⟨e1,e2,e3⟩:=hrw hs
       refine ⟨hTT,?_⟩
       unfold ZcU
       rw [e1,e2]
       simp only [hu,hz,e3,hes,hsl]
       exact ⟨h1,h2,h3,g3,g4,trivial,rfl⟩
      ·exact h.elim
     ·exact h.elim
    ·exact h.elim
   ·exact h.elim
  ·rename_i f hc
   obtain ⟨hf,h⟩:=h
   obtain ⟨p,u,h1,h2,h3⟩:=ZjK h
   refine ⟨p,u,h1,by simp only [opW,hc]; exact h2,fun t2 m2 hs=>⟨hf,?_⟩⟩
   rw [hmap hs]
   exact h3 m2 (hrefs hs)
  ·rename_i i hc
   have hi:Operand.tmp i∈(Op.call c).operands.toList:=by simp [Op.operands,Call.operands,hc]
   split at h
   ·rename_i f cs hti
    obtain ⟨hR,hf,h⟩:=h
    obtain ⟨p,u,h1,h2,h3⟩:=ZjK h
    refine ⟨p,u,h1,by simp only [opW,hc]; exact h2,fun t2 m2 hs=>?_⟩
    have e1:=hs.te _ hi
    simp only [evP,hti] at e1
    rw [e1,hmap hs]
    refine ⟨hR,hf,h3 m2 fun l hl=>?_⟩
    rw [List.flatMap_append,List.mem_append] at hl
    rcases hl with hl | hl
    ·exact hrefs hs l hl
    ·have hfn:evP t (.tmp i)=.fn f cs:=hti
     refine hs.refs rfl hi ?_
     rw [hfn]
     simp only [ZdZ,Zga,Zfz]
     obtain ⟨c1,hc1,hl1⟩:=List.mem_flatMap.1 hl
     refine List.mem_flatMap.2 ⟨c1,hc1,?_⟩
     have hR1:=hR c1 hc1
     cases c1 <;> first | exact hl1 | simp [isR] at hR1
   ·exact h.elim
  ·obtain ⟨p,h1,h2⟩:=red h
   exact ⟨p,[],h1,by simp,fun t2 m2 hs=>imp (h2 t2 m2 hs)⟩
 | _=>
  simp only [popA] at *
  obtain ⟨p,h1,h2⟩:=red h
  exact ⟨p,[],h1,by simp,fun t2 m2 hs=>imp (h2 t2 m2 hs)⟩
end
/-! Updates. -/
theorem ZiU (m:Mem) (q:Nat × Option MB) (l:Nat):(app1 m q)[l]?=if l=q.1 then some q.2 else if l<m.length then m[l]? else if l<q.1+1 then some none else none:=by
 unfold app1
 by_cases h:l=q.1
 ·subst h
  rw [if_pos rfl,List.getElem?_set_self (by simp; omega)]
 ·rw [if_neg h,List.getElem?_set_ne (fun e=>h e.symm)]
  rcases Nat.lt_or_ge l m.length with h1 | h1
  ·rw [if_pos h1,List.getElem?_append_left h1]
  ·rw [if_neg (by omega),List.getElem?_append_right h1,List.getElem?_replicate]
   split
   ·rw [if_pos (by omega)]
   ·rw [if_neg (by omega)]
theorem ZsR (m:Mem) (q:Nat × Option MB):(app1 m q).length=max m.length (q.1+1):=by simp [app1]; omega
theorem Zqo (m:Mem) {q r:Nat × Option MB} (h:q.1≠r.1):app1 (app1 m q) r=app1 (app1 m r) q:=by
 apply List.ext_getElem?
 intro l
 simp only [ZiU,ZsR]
 by_cases h1:l=q.1 <;> by_cases h2:l=r.1
 ·exact absurd (h1.symm.trans h2) h
 ·subst h1; simp only [h2,if_true,if_false]; (repeat' split) <;> first | rfl | (exfalso; omega)
 ·subst h2; simp only [h1,if_true,if_false]; (repeat' split) <;> first | rfl | (exfalso; omega)
 ·simp only [h1,h2,if_false]
  (repeat' split) <;> first | rfl | (exfalso; omega)
theorem Zob {q:Nat × Option MB}:∀ (u:Upd) (m:Mem),(∀ r∈u,q.1≠r.1)→app u (app1 m q)=app1 (app u m) q
 | [],m,_=>rfl
 | r::u,m,h=>by
  show app u (app1 (app1 m q) r)=app1 (app u (app1 m r)) q
  rw [Zqo m (h r List.mem_cons_self),Zob u _ fun r' hr'=>h r' (List.mem_cons_of_mem _ hr')]
theorem Zoc:∀ (u v:Upd) (m:Mem),(∀ q∈u,∀ r∈v,q.1≠r.1)→app v (app u m)=app u (app v m)
 | [],v,m,_=>rfl
 | q::u,v,m,h=>by
  show app v (app u (app1 m q))=app u (app1 (app v m) q)
  rw [Zoc u v _ fun q' hq' r hr=>h q' (List.mem_cons_of_mem _ hq') r hr,Zob v m fun r hr=>h q List.mem_cons_self r hr]
theorem ZjC {m:Mem} {q:Nat × Option MB} {l:Nat} (h:q.1≠l):look (app1 m q) l=look m l:=by
 unfold look
 rw [ZiU,if_neg (fun e=>h e.symm)]
 by_cases h1:l<m.length
 ·rw [if_pos h1]
 ·rw [if_neg h1,List.getElem?_eq_none (by omega)]
  split <;> rfl
theorem ZjD {m m':Mem} {q:Nat × Option MB} {l:Nat} (h:look m l=look m' l):look (app1 m q) l=look (app1 m' q) l:=by
 by_cases e:q.1=l
 ·unfold look
  rw [ZiU,ZiU,if_pos e.symm,if_pos e.symm]
 ·rw [ZjC e,ZjC e,h]
theorem Zg9 {l:Nat}:∀ (u:Upd) {m m':Mem},look m l=look m' l→look (app u m) l=look (app u m') l
 | [],_,_,h=>h
 | q::u,_,_,h=>Zg9 u (ZjD h)
theorem Zlf {l:Nat}:∀ (u:Upd) (m:Mem),(∀ q∈u,q.1≠l)→look (app u m) l=look m l
 | [],_,_=>rfl
 | q::u,m,h=>(Zlf u _ fun r hr=>h r (List.mem_cons_of_mem _ hr)).trans (ZjC (h q List.mem_cons_self))
/-! The state behind the operations of L. -/
structure RA where
 d:Option Tmp
 p:PV
 u:Upd
def stT (L:Nat→Bool):Nat→List RA→List PV→List PV
 | _,[],t=>t
 | i,a::as_,t=>stT L (i+1) as_ (if L i=true then putP t a.d a.p else t)
def stM (L:Nat→Bool):Nat→List RA→Mem→Mem
 | _,[],m=>m
 | i,a::as_,m=>stM L (i+1) as_ (if L i=true then app a.u m else m)
theorem ZtE (t:List PV) (d:Option Tmp) (p:PV):(putP t d p).length=t.length:=by cases d <;> simp [putP]
theorem ZrM {t t':List PV} {d:Option Tmp} {p:PV} {s:Nat} (hl:t.length=t'.length) (h:t.getD s .un=t'.getD s .un):(putP t d p).getD s .un=(putP t' d p).getD s .un:=by
 cases d with
 | none=>exact h
 | some d=>
  simp only [putP,List.getD,List.getElem?_set,hl]
  split
  ·rfl
  ·exact h
theorem ZrN {t:List PV} {d:Option Tmp} {p:PV} {s:Nat} (h:d≠some s):(putP t d p).getD s .un=t.getD s .un:=by
 cases d with
 | none=>rfl
 | some d=>
  have:d≠s:=fun e=>h (by rw [e])
  simp only [putP,List.getD,List.getElem?_set_ne this]
theorem ZrL {t:List PV} {d e:Option Tmp} {p q:PV} (h:d=none∨d≠e):putP (putP t d p) e q=putP (putP t e q) d p:=by
 cases d with
 | none=>rfl
 | some d=>
  cases e with
  | none=>rfl
  | some e=>
   have:d≠e:=fun h'=>by rcases h with h | h <;> simp_all
   simp only [putP]
   exact List.set_comm _ _ this
theorem Zm8 {L L':Nat→Bool} {s:Nat}:∀ (as_:List RA) (i:Nat) (t t':List PV),t.length=t'.length→t.getD s .un=t'.getD s .un→(∀ k a,as_[k]?=some a→L (i+k)≠L' (i+k)→a.d≠some s)→(stT L i as_ t).getD s .un=(stT L' i as_ t').getD s .un
 | [],_,_,_,_,h,_=>h
 | a::as_,i,t,t',hl,h,hd=>by
  simp only [stT]
  have h0:=hd 0 a rfl
  simp only [Nat.add_zero] at h0
  refine Zm8 as_ (i+1) _ _ ?_ ?_ fun k b hk hne=>hd (k+1) b (by simpa using hk) (by rwa [show i+(k+1)=i+1+k by omega])
  ·split <;> split <;> simp [ZtE,hl]
  ·cases h1:L i <;> cases h2:L' i <;> simp only [Bool.false_eq_true,if_false,if_true]
   ·exact h
   ·rw [ZrN (h0 (by rw [h1,h2]; simp))]; exact h
   ·rw [ZrN (h0 (by rw [h1,h2]; simp))]; exact h
   ·exact ZrM hl h
theorem Zm7 {L L':Nat→Bool} {l:Nat}:∀ (as_:List RA) (i:Nat) (m m':Mem),look m l=look m' l→(∀ k a,as_[k]?=some a→L (i+k)≠L' (i+k)→∀ q∈a.u,q.1≠l)→look (stM L i as_ m) l=look (stM L' i as_ m') l
 | [],_,_,_,h,_=>h
 | a::as_,i,m,m',h,hd=>by
  simp only [stM]
  have h0:=hd 0 a rfl
  simp only [Nat.add_zero] at h0
  refine Zm7 as_ (i+1) _ _ ?_ fun k b hk hne=>hd (k+1) b (by simpa using hk) (by rwa [show i+(k+1)=i+1+k by omega])
  cases h1:L i <;> cases h2:L' i <;> simp only [Bool.false_eq_true,if_false,if_true]
  ·exact h
  ·rw [Zlf _ _ (h0 (by rw [h1,h2]; simp))]; exact h
  ·rw [Zlf _ _ (h0 (by rw [h1,h2]; simp))]; exact h
  ·exact Zg9 _ h
theorem ZlI {L:Nat→Bool} {d:Option Tmp} {p:PV}:∀ (as_:List RA) (i:Nat) (t:List PV),(∀ k a,as_[k]?=some a→L (i+k)=true→d=none∨d≠a.d)→stT L i as_ (putP t d p)=putP (stT L i as_ t) d p
 | [],_,_,_=>rfl
 | a::as_,i,t,h=>by
  simp only [stT]
  have h0:=h 0 a rfl
  simp only [Nat.add_zero] at h0
  cases h1:L i
  ·simp only [Bool.false_eq_true,if_false]
   exact ZlI as_ (i+1) t fun k b hk hL=>h (k+1) b (by simpa using hk) (by rwa [show i+(k+1)=i+1+k by omega])
  ·simp only [if_true]
   rw [ZrL (h0 h1)]
   exact ZlI as_ (i+1) _ fun k b hk hL=>h (k+1) b (by simpa using hk) (by rwa [show i+(k+1)=i+1+k by omega])
theorem ZlG {L:Nat→Bool} {u:Upd}:∀ (as_:List RA) (i:Nat) (m:Mem),(∀ k a,as_[k]?=some a→L (i+k)=true→∀ q∈u,∀ r∈a.u,q.1≠r.1)→stM L i as_ (app u m)=app u (stM L i as_ m)
 | [],_,_,_=>rfl
 | a::as_,i,m,h=>by
  simp only [stM]
  have h0:=h 0 a rfl
  simp only [Nat.add_zero] at h0
  cases h1:L i
  ·simp only [Bool.false_eq_true,if_false]
   exact ZlG as_ (i+1) m fun k b hk hL=>h (k+1) b (by simpa using hk) (by rwa [show i+(k+1)=i+1+k by omega])
  ·simp only [if_true]
   rw [Zoc u a.u m (h0 h1)]
   exact ZlG as_ (i+1) _ fun k b hk hL=>h (k+1) b (by simpa using hk) (by rwa [show i+(k+1)=i+1+k by omega])
def ins (L:Nat→Bool) (j:Nat):Nat→Bool:=fun i=>if i=j then true else L i
theorem Zss {L L':Nat→Bool}:∀ (as_:List RA) (i:Nat) (t:List PV),(∀ k,k<as_.length→L (i+k)=L' (i+k))→stT L i as_ t=stT L' i as_ t
 | [],_,_,_=>rfl
 | a::as_,i,t,h=>by
  simp only [stT]
  have h0:=h 0 (by simp)
  simp only [Nat.add_zero] at h0
  rw [h0]
  exact Zss as_ (i+1) _ fun k hk=>by rw [show i+1+k=i+(k+1) by omega]; exact h (k+1) (by simpa using hk)
theorem Zsq {L L':Nat→Bool}:∀ (as_:List RA) (i:Nat) (m:Mem),(∀ k,k<as_.length→L (i+k)=L' (i+k))→stM L i as_ m=stM L' i as_ m
 | [],_,_,_=>rfl
 | a::as_,i,m,h=>by
  simp only [stM]
  have h0:=h 0 (by simp)
  simp only [Nat.add_zero] at h0
  rw [h0]
  exact Zsq as_ (i+1) _ fun k hk=>by rw [show i+1+k=i+(k+1) by omega]; exact h (k+1) (by simpa using hk)
theorem Zsr {L:Nat→Bool} {a0:RA}:∀ (as_:List RA) (i k0:Nat) (t:List PV),as_[k0]?=some a0→L (i+k0)=false→(∀ k a,as_[k]?=some a→k0<k→L (i+k)=true→a0.d=none∨a0.d≠a.d)→stT (ins L (i+k0)) i as_ t=putP (stT L i as_ t) a0.d a0.p
 | [],_,_,_,h,_,_=>by simp at h
 | a::as_,i,k0,t,h,hL,hd=>by
  simp only [stT]
  cases k0 with
  | zero=>
   obtain rfl:a=a0:=by simpa using h
   simp only [Nat.add_zero] at hL ⊢
   have ei:ins L i i=true:=by simp [ins]
   simp only [ei,if_true,hL,Bool.false_eq_true,if_false]
   have e:stT (ins L i) (i+1) as_ (putP t a.d a.p)=stT L (i+1) as_ (putP t a.d a.p):=Zss as_ (i+1) _ fun k hk=>by simp only [ins]; rw [if_neg (by omega)]
   rw [e]
   exact ZlI as_ (i+1) t fun k b hk hb=>hd (k+1) b (by simpa using hk) (by omega) (by rwa [show i+(k+1)=i+1+k by omega])
  | succ k0=>
   have e1:ins L (i+(k0+1)) i=L i:=by simp only [ins]; rw [if_neg (by omega)]
   rw [e1,show i+(k0+1)=i+1+k0 by omega]
   exact Zsr as_ (i+1) k0 _ (by simpa using h) (by rwa [show i+(k0+1)=i+1+k0 by omega] at hL) fun k b hk hlt hb=>hd (k+1) b (by simpa using hk) (by omega) (by rwa [show i+(k+1)=i+1+k by omega])
theorem Zsp {L:Nat→Bool} {a0:RA}:∀ (as_:List RA) (i k0:Nat) (m:Mem),as_[k0]?=some a0→L (i+k0)=false→(∀ k a,as_[k]?=some a→k0<k→L (i+k)=true→∀ q∈a0.u,∀ r∈a.u,q.1≠r.1)→stM (ins L (i+k0)) i as_ m=app a0.u (stM L i as_ m)
 | [],_,_,_,h,_,_=>by simp at h
 | a::as_,i,k0,m,h,hL,hd=>by
  simp only [stM]
  cases k0 with
  | zero=>
   obtain rfl:a=a0:=by simpa using h
   simp only [Nat.add_zero] at hL ⊢
   have ei:ins L i i=true:=by simp [ins]
   simp only [ei,if_true,hL,Bool.false_eq_true,if_false]
   have e:stM (ins L i) (i+1) as_ (app a.u m)=stM L (i+1) as_ (app a.u m):=Zsq as_ (i+1) _ fun k hk=>by simp only [ins]; rw [if_neg (by omega)]
   rw [e]
   exact ZlG as_ (i+1) m fun k b hk hb=>hd (k+1) b (by simpa using hk) (by omega) (by rwa [show i+(k+1)=i+1+k by omega])
  | succ k0=>
   have e1:ins L (i+(k0+1)) i=L i:=by simp only [ins]; rw [if_neg (by omega)]
   rw [e1,show i+(k0+1)=i+1+k0 by omega]
   exact Zsp as_ (i+1) k0 _ (by simpa using h) (by rwa [show i+(k0+1)=i+1+k0 by omega] at hL) fun k b hk hlt hb=>hd (k+1) b (by simpa using hk) (by omega) (by rwa [show i+(k+1)=i+1+k by omega])
/-! The check: what is not ordered is apart. -/
structure LE where
 rd:List Nat
 wr:List Nat
 ts:List Nat
 d:Option Nat
instance:Inhabited LE:=⟨⟨[],[],[],none⟩⟩
def ZwF (ops:Array Oper) (o:Oper):List Nat:=match o.guard with
 | none=>[]
 | some (j,_)=>((ops[j]?).bind (·.dst)).toList
def Zv5:Operand→List Nat
 | .tmp i=>[i]
 | _=>[]
def Zm0 (ops:Array Oper) (o:Oper):List Nat:=(o.op.operands.toList.flatMap Zv5)++ZwF ops o
def leOf (ops:Array Oper) (o:Oper) (t:List PV) (wd ν:Nat):LE:=⟨opR o.op t,opW o.op t wd ν,Zm0 ops o,o.dst⟩
def le0 (ops:Array Oper) (o:Oper):LE:=⟨[],[],Zm0 ops o,o.dst⟩
def ZfP (a b:List Nat):Bool:=a.all fun x=>!b.contains x
theorem ZfQ {a b:List Nat} (h:ZfP a b=true) {x y:Nat} (hx:x∈a) (hy:y∈b):x≠y:=by
 rintro rfl
 have:=List.all_eq_true.1 h x hx
 simp at this
 exact this hy
def Zkq (a b:LE):Bool:=ZfP a.wr b.rd && ZfP a.wr b.wr && ZfP b.wr a.rd && ZfP a.d.toList b.ts && ZfP b.d.toList a.ts && ZfP a.d.toList b.d.toList
def Zus (acc:List Nat) (o:Oper):Nat:=o.after.toList.foldr (fun e s=>if Region.binds .any e then s ||| 2 ^ e.on ||| acc.getD e.on 0 else s) 0
def Zrl:List Oper→List Nat→List Nat
 | [],acc=>acc
 | o::rest,acc=>Zrl rest (acc++[Zus acc o])
def chkD (ops:List Oper) (g:List LE):Bool:=
 let ms:=Zrl ops []
 (List.range ops.length).all fun j=>(((ops[j]?).map (·.after.all fun e=>!Region.binds .any e || decide (e.on<j))).getD false) && (List.range j).all fun i=>(ms.getD j 0).testBit i || Zkq (g.getD i default) (g.getD j default)
def Zj6 (σ:Nat→Nat):List Nat→Mem→Upd
 | l::ρ,x::m1=>(l,x.map (Ze5 σ))::Zj6 σ ρ m1
 | _,_=>[]
theorem ZmM {σ:Nat→Nat}:∀ (ρ:List Nat) (m1 m:Mem),(∀ l∈ρ,l<m.length)→ZeK σ ρ m1 m=app (Zj6 σ ρ m1) m
 | [],m1,m,_=>by cases m1 <;> rfl
 | l::ρ,[],m,_=>rfl
 | l::ρ,x::m1,m,h=>by
  simp only [ZeK,Zj6]
  rw [ZmM ρ m1 _ (fun k hk=>by rw [List.length_set]; exact h k (List.mem_cons_of_mem _ hk))]
  show app (Zj6 σ ρ m1) _=app (Zj6 σ ρ m1) (app1 m (l,x.map (Ze5 σ)))
  rw [show app1 m (l,x.map (Ze5 σ))=m.set l (x.map (Ze5 σ)) from Zja (h l List.mem_cons_self) _]
theorem Ziz {σ:Nat→Nat} {m m2:Mem} {n:Nat}:∀ {ρ:List Nat} {m0:Mem},(∀ l∈ρ,look m2 l=look m l)→Zfe σ m n ρ m0→Zfe σ m2 n ρ m0
 | [],[],_,_=>trivial
 | [],_::_,_,h=>h.elim
 | _::_,[],_,h=>h.elim
 | l::ρ,none::m0,_,h=>h.elim
 | l::ρ,some mb0::m0,hl,h=>⟨Zc2.1 ((hl l List.mem_cons_self).trans (Zc2.2 h.1)),h.2.1,Ziz (fun k hk=>hl k (List.mem_cons_of_mem _ hk)) h.2.2⟩
def pIO (P:Program) (wd ν:Nat) (f:FuncId) (ps:List PV) (m:Mem) (K:List Nat→PV→Mem→Prop):Prop:=
 ∃ (ρ:List Nat) (m0:Mem) (qs:List PV) (r:PV) (m1:Mem),Zd1 P f qs m0 r m1∧m0.length≤m1.length∧m1.length-m0.length≤wd∧ps=qs.map (renA (sig ρ ν))∧(∀ q∈qs,Zfh false q∧lowA m0.length q=true)∧ρ.Nodup∧Zfe (sig ρ ν) m m0.length ρ m0∧
  (∀ mb,some mb∈m1→∀ cs∈mb.es,∀ p∈cs,ZaL false p)∧Zfi false r∧K ρ (renV (sig ρ ν) r) (ZcW (sig ρ ν) ν (m1.drop ρ.length) (ZeK (sig ρ ν) ρ m1 m))
def popI (P:Program) (wd ν:Nat) (o:Op) (t:List PV) (m:Mem) (K:List Nat→PV→Mem→Prop):Prop:=match o with
 | .call ⟨.value (.func f),xs,_⟩=>isFn P f∧pIO P wd ν f (xs.toList.map (evP t)) m K
 | _=>False
theorem Znc {σ:Nat→Nat}:∀ (ρ:List Nat) (m1:Mem) (q:Nat × Option MB),q∈Zj6 σ ρ m1→q.1∈ρ
 | [],m1,q,h=>by cases m1 <;> simp [Zj6] at h
 | l::ρ,[],q,h=>by simp [Zj6] at h
 | l::ρ,x::m1,q,h=>by
  simp only [Zj6,List.mem_cons] at h
  rcases h with rfl | h
  ·exact List.mem_cons_self
  ·exact List.mem_cons_of_mem _ (Znc ρ m1 q h)
theorem Zrw {P:Program} {m:Mem} {f:FuncId} {ps:List PV} {wd ν:Nat} {K:List Nat→PV→Mem→Prop} (h:pIO P wd ν f ps m K):
 ∃ (ρ:List Nat) (p:PV) (u:Upd),K ρ p (app u m)∧(∀ q∈u,q.1∈ρ++List.range' ν wd)∧∀ m2,(∀ l∈ρ,look m2 l=look m l)→ZfX P true wd ν f ps m2 fun p' m'=>p'=p∧m'=app u m2:=by
 obtain ⟨ρ,m0,qs,r,m1,hc,hle,h16,hps,hqs,hn,hin,hm1,hgr,hK⟩:=h
 have hlt:∀ (m2:Mem),Zfe (sig ρ ν) m2 m0.length ρ m0→∀ l∈ρ,l<m2.length:=fun m2 hi l hl=>by
  obtain ⟨i,hi1,rfl⟩:=List.getElem_of_mem hl
  obtain ⟨mb0,_,h2,_⟩:=(ZfR hi).2 i ρ[i] (List.getElem?_eq_getElem hi1)
  exact (List.getElem?_eq_some_iff.1 h2).1
 have e:∀ (m2:Mem),Zfe (sig ρ ν) m2 m0.length ρ m0→ZcW (sig ρ ν) ν (m1.drop ρ.length) (ZeK (sig ρ ν) ρ m1 m2)=app (Zj6 (sig ρ ν) ρ m1++ZhX (sig ρ ν) ν (m1.drop ρ.length)) m2:=fun m2 hi=>by
  rw [ZeU,ZmM ρ m1 m2 (hlt m2 hi)]
  simp only [app,List.foldl_append]
 have hlen:=(ZfR hin).1
 refine ⟨ρ,renV (sig ρ ν) r,Zj6 (sig ρ ν) ρ m1++ZhX (sig ρ ν) ν (m1.drop ρ.length),by rw [← e m hin]; exact hK,fun q hq=>?_,fun m2 hm2=>?_⟩
 ·rcases List.mem_append.1 hq with hq | hq
  ·exact List.mem_append_left _ (Znc _ _ _ hq)
  ·refine List.mem_append_right _ (Zie.2 ?_)
   have:=ZgY _ _ _ q hq
   simp only [List.length_drop] at this
   omega
 ·have hin2:=Ziz hm2 hin
  exact .inr ⟨ρ,m0,qs,r,m1,.inl rfl,hc,hle,h16,hps,hqs,hn,hin2,hm1,hgr,rfl,e m2 hin2⟩
def ioAt:List Nat→Nat→Bool
 | [],_=>false
 | a::l,i=>if a=i then true else ioAt l i
def leIO (ops:Array Oper) (o:Oper) (ρ:List Nat) (wd ν:Nat):LE:=⟨ρ,ρ++List.range' ν wd,Zm0 ops o,o.dst⟩
def Zee (P:Program) (wd base:Nat) (fl:List Nat) (ops:Array Oper) (K:List LE→List PV→Mem→Prop):Nat→List Oper→List LE→List PV→Mem→Prop
 | _,[],g,t,m=>K g t m
 | i,o::rest,g,t,m=>match o.guard with
  | none=>if ioAt fl i=true then popI P wd (base+wd*i) o.op t m fun ρ p m'=>Zee P wd base fl ops K (i+1) rest (g++[leIO ops o ρ wd (base+wd*i)]) (putP t o.dst p) m'
   else popA P false wd (base+wd*i) o.op t m fun p m'=>Zee P wd base fl ops K (i+1) rest (g++[leOf ops o t wd (base+wd*i)]) (putP t o.dst p) m'
  | some (j,b)=>match (ops[j]?).bind (·.dst) with
   | none=>Zee P wd base fl ops K (i+1) rest (g++[le0 ops o]) (putP t o.dst .ud) m
   | some d=>match t.getD d .un,b with
    | .v (.bool c),true=>gate c (popA P false wd (base+wd*i) o.op (t.set d (.v (.bool true))) m fun p m'=>Zee P wd base fl ops K (i+1) rest (g++[leOf ops o (t.set d (.v (.bool true))) wd (base+wd*i)]) (putP (t.set d (.v (.bool true))) o.dst p) m')
     (Zee P wd base fl ops K (i+1) rest (g++[le0 ops o]) (putP (t.set d (.v (.bool false))) o.dst .ud) m)
    | .v (.bool c),false=>gate c (Zee P wd base fl ops K (i+1) rest (g++[le0 ops o]) (putP (t.set d (.v (.bool true))) o.dst .ud) m)
     (popA P false wd (base+wd*i) o.op (t.set d (.v (.bool false))) m fun p m'=>Zee P wd base fl ops K (i+1) rest (g++[leOf ops o (t.set d (.v (.bool false))) wd (base+wd*i)]) (putP (t.set d (.v (.bool false))) o.dst p) m')
    | .ud,_=>Zee P wd base fl ops K (i+1) rest (g++[le0 ops o]) (putP t o.dst .ud) m
    | _,_=>False
def Want (ops:Array Oper) (o:Oper) (t:List PV):Prop:=o.guard=none∨∃ j b d,o.guard=some (j,b)∧(ops[j]?).bind (·.dst)=some d∧t.getD d .un=.v (.bool b)
def Zqf (ops:Array Oper) (o:Oper) (t:List PV):Prop:=∃ j b,o.guard=some (j,b)∧((ops[j]?).bind (·.dst)=none∨∃ d,(ops[j]?).bind (·.dst)=some d∧(t.getD d .un=.ud∨t.getD d .un=.v (.bool (!b))))
def Does (P:Program) (wd ν:Nat) (ops:Array Oper) (o:Oper) (a:RA) (t:List PV) (m:Mem):Prop:=
 (Want ops o t∧∃ io:Bool,popA P io wd ν o.op t m fun p' m'=>p'=a.p∧m'=app a.u m)∨(Zqf ops o t∧a.p=.ud∧a.u=[])
structure Stp (P:Program) (wd ν:Nat) (ops:Array Oper) (o:Oper) (a:RA) (g:LE) (t:List PV) (m:Mem):Prop where
 ad:a.d=o.dst
 gd:g.d=o.dst
 gt:g.ts=Zm0 ops o
 wr:∀ q∈a.u,q.1∈g.wr
 does:∀ t2 m2,(∀ s∈g.ts,t2.getD s .un=t.getD s .un)→(∀ l∈g.rd,look m2 l=look m l)→Does P wd ν ops o a t2 m2
section
variable {P:Program} {wd base:Nat} {fl:List Nat} {ops:Array Oper} {K:List LE→List PV→Mem→Prop}
theorem ZlH {L:Nat→Bool}:∀ (as_:List RA) (i:Nat) (t:List PV),(∀ k,L (i+k)=false)→stT L i as_ t=t
 | [],_,_,_=>rfl
 | a::as_,i,t,h=>by
  simp only [stT]
  rw [show L i=false from h 0]
  simp only [Bool.false_eq_true,if_false]
  exact ZlH as_ (i+1) t fun k=>by rw [show i+1+k=i+(k+1) by omega]; exact h (k+1)
theorem ZlF {L:Nat→Bool}:∀ (as_:List RA) (i:Nat) (m:Mem),(∀ k,L (i+k)=false)→stM L i as_ m=m
 | [],_,_,_=>rfl
 | a::as_,i,m,h=>by
  simp only [stM]
  rw [show L i=false from h 0]
  simp only [Bool.false_eq_true,if_false]
  exact ZlF as_ (i+1) m fun k=>by rw [show i+1+k=i+(k+1) by omega]; exact h (k+1)
theorem ZoI {t t2:List PV} {x:Operand} (h:∀ s∈Zv5 x,t2.getD s .un=t.getD s .un):evP t2 x=evP t x:=by
 cases x with
 | tmp i=>exact h i (by simp [Zv5])
 | _=>rfl
theorem Zpe {t:List PV} {d:Nat} {p:PV} (h:t.getD d .un=p) (hne:p≠.un):t.set d p=t:=by
 apply List.ext_getElem?
 intro l
 rw [List.getElem?_set]
 split
 ·rename_i e
  subst e
  split
  ·rename_i hl
   simp [List.getD,List.getElem?_eq_getElem hl] at h
   rw [List.getElem?_eq_getElem hl,h]
  ·rename_i hl
   rw [List.getElem?_eq_none (by omega)]
 ·rfl
theorem Zv1 {o:Oper} {t t2:List PV} {m m2:Mem} {wd ν:Nat} (h1:∀ s∈Zm0 ops o,t2.getD s .un=t.getD s .un) (h2:∀ l∈opR o.op t,look m2 l=look m l):Same o.op t m t2 m2:=
 ⟨fun x hx=>ZoI fun s hs=>h1 s (List.mem_append_left _ (List.mem_flatMap.2 ⟨x,hx,hs⟩)),h2⟩
theorem ZmK:∀ (l:List Oper) (i:Nat) (g:List LE) (t:List PV) (m:Mem),Zee P wd base fl ops K i l g t m→
 ∃ (as_:List RA) (gs:List LE),as_.length=l.length∧gs.length=l.length∧K (g++gs) (stT (fun _=>true) i as_ t) (stM (fun _=>true) i as_ m)∧
  ∀ k o,l[k]?=some o→∃ a e,as_[k]?=some a∧gs[k]?=some e∧Stp P wd (base+wd*(i+k)) ops o a e (stT (fun j=>decide (j<i+k)) i as_ t) (stM (fun j=>decide (j<i+k)) i as_ m)
 | [],i,g,t,m,h=>by
  unfold Zee at h
  exact ⟨[],[],rfl,rfl,by simpa [stT,stM] using h,fun k o hk=>by simp at hk⟩
 | o::l,i,g,t,m,h=>by
  -- one step,and the rest
  have next:∀ (a:RA) (e:LE),Zee P wd base fl ops K (i+1) l (g++[e]) (putP t a.d a.p) (app a.u m)→Stp P wd (base+wd*i) ops o a e t m→∃ (as_:List RA) (gs:List LE),as_.length=(o::l).length∧gs.length=(o::l).length∧K (g++gs) (stT (fun _=>true) i as_ t) (stM (fun _=>true) i as_ m)∧
   ∀ k o',(o::l)[k]?=some o'→∃ a e,as_[k]?=some a∧gs[k]?=some e∧Stp P wd (base+wd*(i+k)) ops o' a e (stT (fun j=>decide (j<i+k)) i as_ t) (stM (fun j=>decide (j<i+k)) i as_ m):=by
   intro a e h hs
   obtain ⟨as_,gs,h1,h2,h3,h4⟩:=ZmK l (i+1) _ _ _ h
   refine ⟨a::as_,e::gs,by simp [h1],by simp [h2],by simpa [stT,stM] using h3,fun k o' hk=>?_⟩
   cases k with
   | zero=>
    obtain rfl:o=o':=by simpa using hk
    refine ⟨a,e,rfl,rfl,?_⟩
    rw [ZlH _ _ _ (fun k=>by simp),ZlF _ _ _ (fun k=>by simp)]
    exact hs
   | succ k=>
    obtain ⟨a',e',g1,g2,g3⟩:=h4 k o' (by simpa using hk)
    refine ⟨a',e',by simpa using g1,by simpa using g2,?_⟩
    simp only [stT,stM,show decide (i<i+(k+1))=true by simp,if_true]
    rw [show i+(k+1)=i+1+k by omega]
    exact g3
  have pass:∀ (hno:∀ t2:List PV,(∀ s∈Zm0 ops o,t2.getD s .un=t.getD s .un)→Zqf ops o t2),Zee P wd base fl ops K (i+1) l (g++[le0 ops o]) (putP t o.dst .ud) m→∃ (as_:List RA) (gs:List LE),as_.length=(o::l).length∧gs.length=(o::l).length∧K (g++gs) (stT (fun _=>true) i as_ t) (stM (fun _=>true) i as_ m)∧
   ∀ k o',(o::l)[k]?=some o'→∃ a e,as_[k]?=some a∧gs[k]?=some e∧Stp P wd (base+wd*(i+k)) ops o' a e (stT (fun j=>decide (j<i+k)) i as_ t) (stM (fun j=>decide (j<i+k)) i as_ m):=by
   intro hno h
   exact next ⟨o.dst,.ud,[]⟩ (le0 ops o) h ⟨rfl,rfl,rfl,by simp,fun t2 m2 h1 _=>.inr ⟨hno t2 h1,rfl,rfl⟩⟩
  have run:∀ (hw:∀ t2:List PV,(∀ s∈Zm0 ops o,t2.getD s .un=t.getD s .un)→Want ops o t2),(popA P false wd (base+wd*i) o.op t m fun p m'=>Zee P wd base fl ops K (i+1) l (g++[leOf ops o t wd (base+wd*i)]) (putP t o.dst p) m')→∃ (as_:List RA) (gs:List LE),as_.length=(o::l).length∧gs.length=(o::l).length∧K (g++gs) (stT (fun _=>true) i as_ t) (stM (fun _=>true) i as_ m)∧
   ∀ k o',(o::l)[k]?=some o'→∃ a e,as_[k]?=some a∧gs[k]?=some e∧Stp P wd (base+wd*(i+k)) ops o' a e (stT (fun j=>decide (j<i+k)) i as_ t) (stM (fun j=>decide (j<i+k)) i as_ m):=by
   intro hw h
   obtain ⟨p,u,h1,h2,h3⟩:=ZpV h
   exact next ⟨o.dst,p,u⟩ (leOf ops o t wd (base+wd*i)) h1 ⟨rfl,rfl,rfl,h2,fun t2 m2 e1 e2=>.inl ⟨hw t2 e1,false,h3 t2 m2 (Zv1 (ops:=ops) (wd:=wd) (ν:=0) e1 e2)⟩⟩
  have gs:∀ {j b d},o.guard=some (j,b)→(ops[j]?).bind (·.dst)=some d→d∈Zm0 ops o:=fun hg hd=>List.mem_append_right _ (by simp [ZwF,hg,hd])
  simp only [Zee] at h
  split at h
  ·rename_i hg
   split at h
   ·unfold popI at h
    split at h
    ·rename_i f xs Ts hop
     obtain ⟨hfn,hc⟩:=h
     obtain ⟨ρ,p,u,hK,hwr,hloc⟩:=Zrw hc
     refine next ⟨o.dst,p,u⟩ (leIO ops o ρ wd (base+wd*i)) hK ⟨rfl,rfl,rfl,hwr,fun t2 m2 e1 e2=>.inl ⟨.inl hg,true,?_⟩⟩
     have hmap:xs.toList.map (evP t2)=xs.toList.map (evP t):=List.map_congr_left fun x hx=>ZoI fun s hs=>e1 s (List.mem_append_left _ (List.mem_flatMap.2 ⟨x,by rw [hop]; simp [Op.operands,Call.operands,Array.mem_toList_iff.1 hx],hs⟩))
     rw [hop]
     show isFn P f∧ZfX P true wd _ f (xs.toList.map (evP t2)) m2 _
     rw [hmap]
     exact ⟨hfn,hloc m2 e2⟩
    ·exact h.elim
   ·exact run (fun t2 _=>.inl hg) h
  ·rename_i j b hg
   split at h
   ·rename_i hdn; exact pass (fun t2 _=>⟨j,b,hg,.inl hdn⟩) h
   ·rename_i d hdn
    split at h
    ·rename_i c hc
     have hset:=fun c' (hc':c=c')=>Zpe (t:=t) (d:=d) (p:=.v (.bool c')) (by rw [hc,hc']) (by simp)
     cases c with
     | true=>rw [hset true rfl] at h; exact run (fun t2 e=>.inr ⟨j,true,d,hg,hdn,(e d (gs hg hdn)).trans hc⟩) (h.1 rfl)
     | false=>rw [hset false rfl] at h; exact pass (fun t2 e=>⟨j,true,hg,.inr ⟨d,hdn,.inr ((e d (gs hg hdn)).trans hc)⟩⟩) (h.2 rfl)
    ·rename_i c hc
     have hset:=fun c' (hc':c=c')=>Zpe (t:=t) (d:=d) (p:=.v (.bool c')) (by rw [hc,hc']) (by simp)
     cases c with
     | true=>rw [hset true rfl] at h; exact pass (fun t2 e=>⟨j,false,hg,.inr ⟨d,hdn,.inr ((e d (gs hg hdn)).trans hc)⟩⟩) (h.1 rfl)
     | false=>rw [hset false rfl] at h; exact run (fun t2 e=>.inr ⟨j,false,d,hg,hdn,(e d (gs hg hdn)).trans hc⟩) (h.2 rfl)
    ·rename_i hc; exact pass (fun t2 e=>⟨j,_,hg,.inr ⟨d,hdn,.inl ((e d (gs hg hdn)).trans hc)⟩⟩) h
    ·exact h.elim
/-! What the check says. -/
def Zqa (ops:List Oper) (L:Nat→Bool):Prop:=∀ (j:Nat) (o:Oper),ops[j]?=some o→L j=true→∀ e∈o.after.toList,Region.binds .any e=true→L e.on=true
theorem Zlg {L:Nat→Bool} {acc:List Nat} (hacc:∀ j,L j=true→∀ i,(acc.getD j 0).testBit i=true→L i=true):∀ (es:List Edge),(∀ e∈es,Region.binds .any e=true→L e.on=true)→∀ i,(es.foldr (fun e s=>if Region.binds .any e then s ||| 2 ^ e.on ||| acc.getD e.on 0 else s) 0).testBit i=true→L i=true
 | [],_,i,h=>by simp at h
 | e::es,he,i,h=>by
  simp only [List.foldr_cons] at h
  split at h
  ·rename_i hb
   simp only [Nat.testBit_or,Bool.or_eq_true] at h
   rcases h with (h | h) | h
   ·exact Zlg hacc es (fun e' h'=>he e' (List.mem_cons_of_mem _ h')) i h
   ·have:e.on=i:=by
     rw [Nat.testBit_two_pow] at h
     simpa using h
    rw [← this]; exact he e List.mem_cons_self hb
   ·exact hacc e.on (he e List.mem_cons_self hb) i h
  ·exact Zlg hacc es (fun e' h'=>he e' (List.mem_cons_of_mem _ h')) i h
theorem ZjI {ops:List Oper} {L:Nat→Bool} (hcl:Zqa ops L):∀ (l:List Oper) (acc:List Nat),(∀ k,l[k]?=ops[acc.length+k]?)→(∀ j,L j=true→∀ i,(acc.getD j 0).testBit i=true→L i=true)→∀ j,L j=true→∀ i,((Zrl l acc).getD j 0).testBit i=true→L i=true
 | [],acc,_,hacc=>hacc
 | o::l,acc,hl,hacc=>by
  unfold Zrl
  refine ZjI hcl l _ (fun k=>?_) fun j hj i hi=>?_
  ·have:=hl (k+1)
   simp only [List.getElem?_cons_succ] at this
   rw [this,List.length_append]
   simp only [List.length_cons,List.length_nil]
   congr 1; omega
  ·rcases Nat.lt_trichotomy j acc.length with h | h | h
   ·refine hacc j hj i ?_
    simpa [List.getD,List.getElem?_append_left h] using hi
   ·subst h
    have h0:=hl 0
    simp only [List.getElem?_cons_zero,Nat.add_zero] at h0
    have hi':(Zus acc o).testBit i=true:=by simpa [List.getD] using hi
    exact Zlg hacc o.after.toList (fun e he hb=>hcl acc.length o h0.symm hj e he hb) i hi'
   ·rw [List.getD,List.getElem?_eq_none (by simp; omega)] at hi
    simp at hi
theorem Zl0 {ops:List Oper} {g:List LE} (h:chkD ops g=true) {i j:Nat} (hij:i<j) (hj:j<ops.length):((Zrl ops []).getD j 0).testBit i=true∨Zkq (g.getD i default) (g.getD j default)=true:=by
 unfold chkD at h
 have:=List.all_eq_true.1 h j (List.mem_range.2 hj)
 rw [Bool.and_eq_true] at this
 have:=List.all_eq_true.1 this.2 i (List.mem_range.2 hij)
 simpa using this
theorem ZuQ {ops:List Oper} {g:List LE} (h:chkD ops g=true) {j:Nat} {o:Oper} (hj:ops[j]?=some o):∀ e∈o.after.toList,Region.binds .any e=true→e.on<j:=by
 unfold chkD at h
 have:=List.all_eq_true.1 h j (List.mem_range.2 (List.getElem?_eq_some_iff.1 hj).1)
 rw [Bool.and_eq_true,hj] at this
 have h1:=this.1
 simp only [Option.map_some,Option.getD_some] at h1
 intro e he hb
 rw [← Array.all_toList] at h1
 have:=List.all_eq_true.1 h1 e he
 simpa [hb] using this
/-! The region. -/
section
variable {w:World} {O:Nat→Prop} {E:Env} {w0:World} {m:Mem} {S0:Nat→Prop} {ω0:Nat→Key→Prop}
def unl (n:Nat) (listed:Array Bool):Nat:=((List.range n).filter fun j=>!listed.getD j false).length
theorem Zv7 {n i:Nat} {listed:Array Bool} (hi:i<n) (hs:listed.size=n) (h:listed.getD i false=false):unl n (listed.setIfInBounds i true)<unl n listed:=by
 unfold unl
 have e:(List.range n).filter (fun j=>!(listed.setIfInBounds i true).getD j false)=((List.range n).filter fun j=>!listed.getD j false).filter fun j=>decide (j≠i):=by
  rw [List.filter_filter]
  apply List.filter_congr
  intro j hj
  by_cases hji:j=i
  ·subst hji
   have:(listed.setIfInBounds j true).getD j false=true:=by simp [Array.getD,hs,hi]
   simp [this]
  ·have:(listed.setIfInBounds i true).getD j false=listed.getD j false:=by
    rw [Array.getD_eq_getD_getElem?,Array.getD_eq_getD_getElem?,Array.getElem?_setIfInBounds_ne (fun e=>hji e.symm)]
   rw [this]; simp [hji]
 rw [e]
 exact List.length_filter_lt_length_iff_exists.2 ⟨i,by
  rw [List.mem_filter]
  exact ⟨List.mem_range.2 hi,by rw [h]; rfl⟩,by simp⟩
structure Zwe (P:Program) (wd:Nat) (ops:List Oper) (as_:List RA) (gs:List LE) (t0:List PV) (m0:Mem):Prop where
 la:as_.length=ops.length
 lg:gs.length=ops.length
 chk:chkD ops gs=true
 st:∀ (k:Nat) (o:Oper),ops[k]?=some o→∃ a e,as_[k]?=some a∧gs[k]?=some e∧Stp P wd (m0.length+wd*k) ops.toArray o a e (stT (fun j=>decide (j<k)) 0 as_ t0) (stM (fun j=>decide (j<k)) 0 as_ m0)
theorem Zv8 {ops:Array Oper} {o:Oper} {t:List PV} {tm:Array Value} (h:Want ops o t) (ht:RepT w E t tm):Region.wanted o (yielded ops tm)=true:=by
 rcases h with h | ⟨j,b,d,hg,hd,hs⟩
 ·exact ZkC h _
 ·rw [ZgQ hg hd ht hs]; simp
theorem Zrs {ops:Array Oper} {o:Oper} {t:List PV} {tm:Array Value} (h:Zqf ops o t) (ht:RepT w E t tm):Region.wanted o (yielded ops tm)=false:=by
 obtain ⟨j,b,hg,h | ⟨d,hd,h | h⟩⟩:=h
 ·exact ZoO hg h _
 ·exact ZoP hg hd ht h
 ·rw [ZgQ hg hd ht h]; cases b <;> rfl
def SBd (S0:Nat→Prop) (ω0:Nat→Key→Prop) (w0:World) (O:Nat→Prop) (E:Env):Prop:=(∀ b,E.S b→S0 b∨w0.heap.size≤b∨O b)∧∀ b q,E.ω b q→ω0 b q∨w0.heap.size≤b∨O b
theorem ZuB {w':World} {E':Env} (hk:Ok w0 O E w m) (h2:SBd S0 ω0 w0 O E) (k2:Ext w w' E E'):SBd S0 ω0 w0 O E':=by
 refine ⟨fun b hb=>?_,fun b q hb=>?_⟩
 ·rcases k2.S' b hb with h | h | ⟨l,B,hB,hz,rfl⟩
  ·exact h2.1 b h
  ·exact .inr (.inl (Nat.le_trans hk.up.size h))
  ·rcases (hk.own l B hB hz).1 with h | h
   ·exact .inr (.inr h)
   ·exact .inr (.inl h)
 ·rcases k2.ω' b q hb with h | h | ⟨l,B,hB,hz,rfl⟩
  ·exact h2.2 b q h
  ·exact .inr (.inl (Nat.le_trans hk.up.size h))
  ·rcases (hk.own l B hB hz).1 with h | h
   ·exact .inr (.inr h)
   ·exact .inr (.inl h)
theorem Znt (hwd:0<wd) {ops:List Oper} {as_:List RA} {gs:List LE} {t0:List PV} {m0:Mem} (hsc:Zwe P wd ops as_ gs t0 m0) {J:Env→Prop} (hJ:∀ w w' E E',Ext w w' E E'→J E→J E') {K:List PV→Mem→Prop} {Q:Exit→Act→World→Prop}
 (hK:K (stT (fun _=>true) 0 as_ t0) (stM (fun _=>true) 0 as_ m0))
 (hQ:∀ t m a w E,K t m→Ok w0 O E w m→(∀ b,S0 b→E.S b)→SBd S0 ω0 w0 O E→a.defers=[]→RepT w E t a.tmps→J E→Q .normal a w):
 ∀ (fuel:Nat) (listed:Array Bool) (a:Act) (w:World) (E:Env),listed.size=ops.length→unl ops.length listed≤fuel→Zqa ops (fun j=>listed.getD j false)→
  Ok w0 O E w (stM (fun j=>listed.getD j false) 0 as_ m0)→(∀ b,S0 b→E.S b)→SBd S0 ω0 w0 O E→a.defers=[]→RepT w E (stT (fun j=>listed.getD j false) 0 as_ t0) a.tmps→
  (∀ l,E.used l→l<m0.length∨∃ j,listed.getD j false=true∧m0.length+wd*j≤l∧l<m0.length+wd*j+wd)→J E→wpAny P .any ops.toArray Q fuel listed a w:=by
 -- all is listed where nothing may come
 have fin:∀ (listed:Array Bool),listed.size=ops.length→Region.ready .any ops.toArray listed=[]→∀ j,j<ops.length→listed.getD j false=true:=by
  intro listed hs hr j
  induction j using Nat.strongRecOn with
  | _ j ih=>
   intro hj
   by_cases hl:listed.getD j false=true
   ·exact hl
   ·exfalso
    have hmem:j∈Region.ready .any ops.toArray listed:=by
     unfold Region.ready
     refine List.mem_filter.2 ⟨List.mem_range.2 (by simpa using hj),?_⟩
     have h1:listed.getD j true=false:=by
      have hjs:j<listed.size:=by rw [hs]; exact hj
      have:listed.getD j false=false:=by simpa using hl
      simp only [Array.getD,hjs,dif_pos] at this ⊢
      exact this
     rw [h1]
     obtain ⟨o,ho⟩:∃ o,ops[j]?=some o:=⟨ops[j],List.getElem?_eq_getElem hj⟩
     have ho':(ops.toArray)[j]?=some o:=by simpa using ho
     rw [ho']
     simp only [Option.map_some,Option.getD_some,Bool.not_false,Bool.true_and]
     rw [← Array.all_toList,List.all_eq_true]
     intro e he
     by_cases hb:Region.binds .any e=true
     ·have hlt:=ZuQ hsc.chk ho e he hb
      simp [hb,ih e.on hlt (by omega)]
     ·simp [hb]
    rw [hr] at hmem
    cases hmem
 have done:∀ (listed:Array Bool) (a:Act) (w:World) (E:Env),listed.size=ops.length→Region.ready .any ops.toArray listed=[]→Ok w0 O E w (stM (fun j=>listed.getD j false) 0 as_ m0)→(∀ b,S0 b→E.S b)→SBd S0 ω0 w0 O E→a.defers=[]→RepT w E (stT (fun j=>listed.getD j false) 0 as_ t0) a.tmps→J E→Q .normal a w:=by
  intro listed a w E hs hr hk h1 h2 hd ht hj
  have hall:=fin listed hs hr
  rw [Zsq as_ 0 m0 (L':=fun _=>true) fun k hk=>by simp only [Nat.zero_add]; exact hall k (by rw [← hsc.la]; exact hk)] at hk
  rw [Zss as_ 0 t0 (L':=fun _=>true) fun k hk=>by simp only [Nat.zero_add]; exact hall k (by rw [← hsc.la]; exact hk)] at ht
  exact hQ _ _ a w E hK hk h1 h2 hd ht hj
 intro fuel
 induction fuel with
 | zero=>
  intro listed a w E hs hu hcl hk h1 h2 hd ht hused hjE
  have hr:Region.ready .any ops.toArray listed=[]:=by
   unfold Region.ready
   rw [List.filter_eq_nil_iff]
   intro j hj
   have hj':j<ops.length:=by simpa using hj
   have hall:listed.getD j false=true:=by
    unfold unl at hu
    have hnil:=List.length_eq_zero_iff.1 (Nat.le_zero.1 hu)
    rw [List.filter_eq_nil_iff] at hnil
    simpa using hnil j (List.mem_range.2 hj')
   have hjs:j<listed.size:=by rw [hs]; exact hj'
   have:listed.getD j true=true:=by
    simp only [Array.getD,hjs,dif_pos] at hall ⊢
    exact hall
   simp [this]
  exact ⟨hr,done listed a w E hs hr hk h1 h2 hd ht hjE⟩
 | succ fuel ih=>
  intro listed a w E hs hu hcl hk h1 h2 hd ht hused hjE
  refine ⟨fun hr=>done listed a w E hs hr hk h1 h2 hd ht hjE,fun i hi=>?_⟩
  obtain ⟨hi1,hi2⟩:=List.mem_filter.1 hi
  have hin:i<ops.length:=by simpa using hi1
  obtain ⟨o,ho⟩:∃ o,ops[i]?=some o:=⟨ops[i],List.getElem?_eq_getElem hin⟩
  have ho':(ops.toArray)[i]?=some o:=by simpa using ho
  rw [ho'] at hi2
  simp only [Option.map_some,Option.getD_some,Bool.and_eq_true,Bool.not_eq_true'] at hi2
  obtain ⟨hnl0,hdeps0⟩:=hi2
  have his:i<listed.size:=by rw [hs]; exact hin
  have hnl:listed.getD i false=false:=by
   simp only [Array.getD,his,dif_pos] at hnl0 ⊢
   exact hnl0
  have hdeps:∀ e∈o.after.toList,Region.binds .any e=true→listed.getD e.on false=true:=by
   intro e he hb
   rw [← Array.all_toList] at hdeps0
   have:=List.all_eq_true.1 hdeps0 e he
   simpa [hb] using this
  obtain ⟨ai,ei,ha,he,hst⟩:=hsc.st i o ho
  let L:Nat→Bool:=fun j=>listed.getD j false
  have hclm:=ZjI hcl ops [] (fun k=>by simp) (fun j _ i h=>by simp [List.getD] at h)
  -- what is listed behind i is apart from it; what is not listed ahead of it,too
  have gget:∀ {k e'},gs[k]?=some e'→gs.getD k default=e':=fun h=>by simp [List.getD,h]
  have hafter:∀ (k:Nat) (e':LE),gs[k]?=some e'→i<k→L k=true→Zkq ei e'=true:=by
   intro k e' hk' hlt hL
   have hkn:k<ops.length:=by rw [← hsc.lg]; exact (List.getElem?_eq_some_iff.1 hk').1
   rcases Zl0 hsc.chk hlt hkn with h | h
   ·have:=hclm k hL i h
    simp [hnl] at this
   ·rwa [gget he,gget hk'] at h
  have hcl2:Zqa ops (ins L i):=by
   intro j o' hj hL e he' hb
   simp only [ins] at hL ⊢
   split at hL
   ·rename_i hji
    subst hji
    rw [ho] at hj
    cases hj
    split
    ·rfl
    ·exact hdeps e he' hb
   ·split
    ·rfl
    ·exact hcl j o' hj hL e he' hb
  have hclm2:=ZjI hcl2 ops [] (fun k=>by simp) (fun j _ i h=>by simp [List.getD] at h)
  have hbefore:∀ (k:Nat) (e':LE),gs[k]?=some e'→k<i→L k=false→Zkq e' ei=true:=by
   intro k e' hk' hlt hL
   rcases Zl0 hsc.chk hlt hin with h | h
   ·have:=hclm2 i (by simp [ins]) k h
    simp only [ins] at this
    rw [if_neg (by omega)] at this
    rw [hL] at this; cases this
   ·rwa [gget he,gget hk'] at h
  have part:∀ {x y:LE},Zkq x y=true→ZfP x.wr y.rd=true∧ZfP x.wr y.wr=true∧ZfP y.wr x.rd=true∧ZfP x.d.toList y.ts=true∧ZfP y.d.toList x.ts=true∧ZfP x.d.toList y.d.toList=true:=by
   intro x y h
   simp only [Zkq,Bool.and_eq_true] at h
   exact ⟨h.1.1.1.1.1,h.1.1.1.1.2,h.1.1.1.2,h.1.1.2,h.1.2,h.2⟩
  -- the steps' own entries
  have stp:∀ {k:Nat} {b:RA},as_[k]?=some b→∃ e':LE,gs[k]?=some e'∧b.d=e'.d∧∀ q∈b.u,q.1∈e'.wr:=by
   intro k b hb
   have hkn:k<ops.length:=by rw [← hsc.la]; exact (List.getElem?_eq_some_iff.1 hb).1
   obtain ⟨a',e',g1,g2,g3⟩:=hsc.st k ops[k] (List.getElem?_eq_getElem hkn)
   rw [hb] at g1
   cases g1
   exact ⟨e',g2,g3.ad.trans g3.gd.symm,g3.wr⟩
  have parts:∀ (k:Nat) (b:RA),as_[k]?=some b→L (0+k)≠(decide (0+k<i))→∃ e':LE,gs[k]?=some e'∧b.d=e'.d∧(∀ q∈b.u,q.1∈e'.wr)∧(∀ s∈e'.d.toList,s ∉ ei.ts)∧∀ l∈e'.wr,l ∉ ei.rd:=by
   intro k b hb hne
   rw [Nat.zero_add] at hne
   obtain ⟨e',g1,g2,g3⟩:=stp hb
   refine ⟨e',g1,g2,g3,?_⟩
   rcases Nat.lt_trichotomy k i with h | h | h
   ·have hL:L k=false:=by
     cases hLk:L k with
     | false=>rfl
     | true=>rw [hLk] at hne; simp [h] at hne
    obtain ⟨p1,p2,p3,p4,p5,p6⟩:=part (hbefore k e' g1 h hL)
    exact ⟨fun s hs hs'=>ZfQ p4 hs hs' rfl,fun l hl hl'=>ZfQ p1 hl hl' rfl⟩
   ·subst h
    simp only [Nat.lt_irrefl,decide_false] at hne
    exact absurd hnl hne
   ·have hL:L k=true:=by
     cases hLk:L k with
     | true=>rfl
     | false=>rw [hLk] at hne; simp [Nat.not_lt.2 (Nat.le_of_lt h)] at hne
    obtain ⟨p1,p2,p3,p4,p5,p6⟩:=part (hafter k e' g1 h hL)
    exact ⟨fun s hs hs'=>ZfQ p5 hs hs' rfl,fun l hl hl'=>ZfQ p3 hl hl' rfl⟩
  have hdoes:=hst.does (stT L 0 as_ t0) (stM L 0 as_ m0) (fun s hs=>Zm8 as_ 0 t0 t0 rfl rfl fun k b hb hne=>by
   obtain ⟨e',g1,g2,g3,g4,g5⟩:=parts k b hb hne
   rw [g2]
   intro hd'
   exact g4 s (by rw [hd']; simp) hs) (fun l hl=>Zm7 as_ 0 m0 m0 rfl fun k b hb hne q hq=>by
   obtain ⟨e',g1,g2,g3,g4,g5⟩:=parts k b hb hne
   intro hql
   exact g5 q.1 (g3 q hq) (by rw [hql]; exact hl))
  -- the next state
  have hinsL:(fun j=>(listed.setIfInBounds i true).getD j false)=ins L i:=by
   funext j
   simp only [ins]
   split
   ·rename_i hji; subst hji; simp [Array.getD,his]
   ·rename_i hji
    rw [Array.getD_eq_getD_getElem?,Array.getElem?_setIfInBounds_ne (fun e=>hji e.symm),← Array.getD_eq_getD_getElem?]
  have hTi:stT (ins L i) 0 as_ t0=putP (stT L 0 as_ t0) ai.d ai.p:=by
   have:=Zsr (L:=L) as_ 0 i t0 ha (by rw [Nat.zero_add]; exact hnl) fun k b hb hlt hL=>by
    rw [Nat.zero_add] at hL
    obtain ⟨e',g1,g2,g3⟩:=stp hb
    obtain ⟨p1,p2,p3,p4,p5,p6⟩:=part (hafter k e' g1 hlt hL)
    rw [g2,hst.ad.trans hst.gd.symm]
    cases hd1:ei.d with
    | none=>exact .inl rfl
    | some x=>
     refine .inr fun hd2=>?_
     exact ZfQ p6 (x:=x) (y:=x) (by simp [hd1]) (by rw [← hd2]; simp) rfl
   simpa using this
  have hMi:stM (ins L i) 0 as_ m0=app ai.u (stM L 0 as_ m0):=by
   have:=Zsp (L:=L) as_ 0 i m0 ha (by rw [Nat.zero_add]; exact hnl) fun k b hb hlt hL q hq r hr=>by
    rw [Nat.zero_add] at hL
    obtain ⟨e',g1,g2,g3⟩:=stp hb
    obtain ⟨p1,p2,p3,p4,p5,p6⟩:=part (hafter k e' g1 hlt hL)
    exact ZfQ p2 (hst.wr q hq) (g3 r hr)
   simpa using this
  have hdd:∀ x,(a.put o.dst x).defers=[]:=fun x=>by cases o.dst <;> exact hd
  have hlt:=Zv7 hin hs hnl
  unfold wpOp
  rw [ho']
  rcases hdoes with ⟨hw,io,hp⟩ | ⟨hw,hp,hu0⟩
  ·simp only [Zv8 hw ht,if_true]
   obtain ⟨p,m',⟨rfl,rfl⟩,hg⟩:=ZkJ hk hwd (fun r hr hu'=>by
    rcases hused _ hu' with h | ⟨j,hj,h3,h4⟩
    ·have:wd*i+r<wd*i+wd:=by omega
     omega
    ·have hji:j=i:=by
      rcases Nat.lt_trichotomy j i with h | h | h
      ·have:wd*j+wd≤wd*i:=by
        have:=Nat.mul_le_mul_left wd (show j+1≤i by omega)
        rw [Nat.mul_add] at this; omega
       omega
      ·exact h
      ·have:wd*i+wd≤wd*j:=by
        have:=Nat.mul_le_mul_left wd (show i+1≤j by omega)
        rw [Nat.mul_add] at this; omega
       omega
     subst hji
     rw [hnl] at hj; cases hj) ht hp
   refine .inl (hg _ _ fun x w' E' k1 k2 k3 k4=>ih _ _ w' E' (by simpa using hs) (by omega) ?_ ?_ (fun b hb=>k2.S b (h1 b hb)) ?_ (hdd x) ?_ (fun l hl=>?_) (hJ _ _ _ _ k2 hjE))
   ·rw [hinsL]; exact hcl2
   ·rw [hinsL,hMi]; exact k1
   ·exact ZuB hk h2 k2
   ·rw [hinsL,hTi,hst.ad]; exact (ht.ext k2).put k3 o.dst
   ·have hset:(listed.setIfInBounds i true).getD i false=true:=by simp [Array.getD,his]
    have hkeep:∀ j,listed.getD j false=true→(listed.setIfInBounds i true).getD j false=true:=fun j hj=>by
     have this:(listed.setIfInBounds i true).getD j false=ins L i j:=congrFun hinsL j
     rw [this]
     simp only [ins]
     split
     ·rfl
     ·exact hj
    rcases k4 l hl with h | h
    ·rcases hused l h with h | ⟨j,hj,h3⟩
     ·exact .inl h
     ·exact .inr ⟨j,hkeep j hj,h3⟩
    ·exact .inr ⟨i,hset,h⟩
  ·simp only [Zrs hw ht,Bool.false_eq_true,if_false]
   refine ih _ _ w E (by simpa using hs) (by omega) ?_ ?_ h1 h2 (hdd _) ?_ (fun l hl=>?_) hjE
   ·rw [hinsL]; exact hcl2
   ·rw [hinsL,hMi,hu0]; exact hk
   ·rw [hinsL,hTi,hst.ad,hp]; exact ht.put (.c .ud) o.dst
   ·have hkeep:∀ j,listed.getD j false=true→(listed.setIfInBounds i true).getD j false=true:=fun j hj=>by
     have this:(listed.setIfInBounds i true).getD j false=ins L i j:=congrFun hinsL j
     rw [this]
     simp only [ins]
     split
     ·rfl
     ·exact hj
    rcases hused l hl with h | ⟨j,hj,h3⟩
    ·exact .inl h
    ·exact .inr ⟨j,hkeep j hj,h3⟩
end
end
end Go.Proofs.YtkfbakhnpfmfmaaGreatDoor
