/- A part of the proof of the statement in the last file of this claim: texts on the language of the program and on its functions. No condition. -/
import Derived.Test.YtgdcengoopjplaaGreatDoorCFormatJournal3
import Derived.IntWalk
import Derived.Test.YtgdcengoopjplaaGreatDoorProg
import Derived.Test.YtgdcengoopjplaaGreatDoorCFormatJournal1
import Derived.Laws.BytesArg
import Derived.Lib.ItoaLen
namespace Go.Proofs.YtgdcengoopjplaaGreatDoor
set_option maxRecDepth 10000
open Go.RowKit
set_option linter.unusedVariables false
set_option linter.unusedSimpArgs false
/-! What the rewriting need not go into. -/
@[congr] theorem Znt {P:Program} {ops:Array Oper} {K:List PV→Mem→Prop} {rest:List Oper} {t:List PV} {t':List PV} {m:Mem} {m':Mem} (h_t:t=t') (h_m:m=m'):pops P ops K rest t m=pops P ops K rest t' m':=by subst h_t h_m; rfl
@[congr] theorem Znb {P:Program} {wd:Nat} {base:Nat} {fl:List Nat} {ops:Array Oper} {KD:List LE→List PV→Mem→Prop} {i:Nat} {rest:List Oper} {g:List LE} {g':List LE} {t:List PV} {t':List PV} {m:Mem} {m':Mem} (h_t:t=t') (h_m:m=m') (h_g:g=g'):ZaR P wd base fl ops KD i rest g t m=ZaR P wd base fl ops KD i rest g' t' m':=by subst h_t h_m h_g; rfl
@[congr] theorem ZnR {P:Program} {ops:Array Oper} {K:List PV→Mem→Prop} {rest:List Oper} {t:List PV} {t':List PV} {d:Option Tmp} {p:PV} {p':PV} {m:Mem} {m':Mem} (h_t:t=t') (h_p:p=p') (h_m:m=m'):nxt P ops K rest t d p m=nxt P ops K rest t' d p' m':=by subst h_t h_p h_m; rfl
@[congr] theorem ZnP {P:Program} {wd:Nat} {base:Nat} {fl:List Nat} {ops:Array Oper} {KD:List LE→List PV→Mem→Prop} {i:Nat} {rest:List Oper} {g:List LE} {g':List LE} {t:List PV} {t':List PV} {d:Option Tmp} {p:PV} {p':PV} {m:Mem} {m':Mem} (h_t:t=t') (h_p:p=p') (h_m:m=m') (h_g:g=g'):nxd P wd base fl ops KD i rest g t d p m=nxd P wd base fl ops KD i rest g' t' d p' m':=by subst h_t h_p h_m h_g; rfl
@[congr] theorem ZnZ {P:Program} {ops:Array Oper} {K:List PV→Mem→Prop} {rest:List Oper} {d:Option Tmp} {o:Op} {m:Mem} {m':Mem} {t:List PV} {t':List PV} (h_m:m=m') (h_t:t=t'):rgo P ops K rest d o m t=rgo P ops K rest d o m' t':=by subst h_m h_t; rfl
@[congr] theorem ZnV {P:Program} {ops:Array Oper} {K:List PV→Mem→Prop} {rest:List Oper} {d:Option Tmp} {m:Mem} {m':Mem} {t:List PV} {t':List PV} (h_m:m=m') (h_t:t=t'):pgo P ops K rest d m t=pgo P ops K rest d m' t':=by subst h_m h_t; rfl
@[congr] theorem ZnY {P:Program} {wd:Nat} {base:Nat} {fl:List Nat} {ops:Array Oper} {KD:List LE→List PV→Mem→Prop} {i:Nat} {rest:List Oper} {g:List LE} {oo:Oper} {m:Mem} {m':Mem} {t:List PV} {t':List PV} (h_m:m=m') (h_t:t=t'):rge P wd base fl ops KD i rest g oo m t=rge P wd base fl ops KD i rest g oo m' t':=by subst h_m h_t; rfl
@[congr] theorem ZnQ {P:Program} {wd:Nat} {base:Nat} {fl:List Nat} {ops:Array Oper} {KD:List LE→List PV→Mem→Prop} {i:Nat} {rest:List Oper} {g:List LE} {oo:Oper} {ν ν':Nat} {t t':List PV} {ρ:List Nat} {p p':PV} {m m':Mem} (h_t:t=t') (h_p:p=p') (h_m:m=m') (h_n:ν=ν'):nxe P wd base fl ops KD i rest g oo ν t ρ p m=nxe P wd base fl ops KD i rest g oo ν' t' ρ p' m':=by subst h_t h_p h_m h_n; rfl
@[congr] theorem Zns {P:Program} {wd ν ν':Nat} {o:Op} {t t':List PV} {m m':Mem} {K:List Nat→PV→Mem→Prop} (h_n:ν=ν') (h_t:t=t') (h_m:m=m'):popI P wd ν o t m K=popI P wd ν' o t' m' K:=by subst h_n h_t h_m; rfl
@[congr] theorem ZnS {P:Program} {wd ν ν':Nat} {f:FuncId} {ps ps':List PV} {m m':Mem} {K:List Nat→PV→Mem→Prop} (h_n:ν=ν') (h_p:ps=ps') (h_m:m=m'):pIO P wd ν f ps m K=pIO P wd ν' f ps' m' K:=by subst h_n h_p h_m; rfl
@[congr] theorem ZnX {P:Program} {wd:Nat} {base:Nat} {fl:List Nat} {ops:Array Oper} {KD:List LE→List PV→Mem→Prop} {i:Nat} {rest:List Oper} {g:List LE} {oo:Oper} {m:Mem} {m':Mem} {t:List PV} {t':List PV} (h_m:m=m') (h_t:t=t'):rgd P wd base fl ops KD i rest g oo m t=rgd P wd base fl ops KD i rest g oo m' t':=by subst h_m h_t; rfl
@[congr] theorem ZnU {P:Program} {wd:Nat} {base:Nat} {fl:List Nat} {ops:Array Oper} {KD:List LE→List PV→Mem→Prop} {i:Nat} {rest:List Oper} {g:List LE} {oo:Oper} {m:Mem} {m':Mem} {t:List PV} {t':List PV} (h_m:m=m') (h_t:t=t'):pgd P wd base fl ops KD i rest g oo m t=pgd P wd base fl ops KD i rest g oo m' t':=by subst h_m h_t; rfl
@[congr] theorem Zm6 {b:Bool} {b':Bool} {y:List PV→Prop} {n:List PV→Prop} {t:List PV} {t':List PV} {i:Nat} (h_b:b=b') (h_t:t=t'):Zcw b y n t i=Zcw b' y n t' i:=by subst h_b h_t; rfl
@[congr] theorem ZnO {p:PV} {p':PV} {i:Nat} {t:List PV} {t':List PV} {b:Bool} {y:List PV→Prop} {n:List PV→Prop} (h_p:p=p') (h_t:t=t'):gdV p i t b y n=gdV p' i t' b y n:=by subst h_p h_t; rfl
@[congr] theorem Zn0 {d:Option Tmp} {t:List PV} {t':List PV} {b:Bool} {y:List PV→Prop} {n:List PV→Prop} (h_t:t=t'):gd d t b y n=gd d t' b y n:=by subst h_t; rfl
@[congr] theorem Zm8 {P:Program} {T:TypeId} {cs:Option (List PV)} {cs':Option (List PV)} {K:PV→Prop} (h_cs:cs=cs'):Zb1 P T cs K=Zb1 P T cs' K:=by subst h_cs; rfl
@[congr] theorem Znl {P:Program} {op:BinOp} {T:TypeId} {x:PV} {x':PV} {y:PV} {y':PV} {K:PV→Prop} (h_x:x=x') (h_y:y=y'):pBin P op T x y K=pBin P op T x' y' K:=by subst h_x h_y; rfl
@[congr] theorem ZnT {op:UnOp} {x:PV} {x':PV} {K:PV→Prop} (h_x:x=x'):pUn op x K=pUn op x' K:=by subst h_x; rfl
@[congr] theorem Zl9 {P:Program} {m:Mem} {m':Mem} {T:TypeId} {U:TypeId} {x:PV} {x':PV} {K:PV→Prop} (h_m:m=m') (h_x:x=x'):ZbQ P m T U x K=ZbQ P m' T U x' K:=by subst h_m h_x; rfl
@[congr] theorem Zmc {P:Program} {m:Mem} {m':Mem} {T:TypeId} {x:PV} {x':PV} {lo:Option PV} {lo':Option PV} {hi:Option PV} {hi':Option PV} {K:PV→Prop} (h_m:m=m') (h_x:x=x') (h_lo:lo=lo') (h_hi:hi=hi'):ZaC P m T x lo hi K=ZaC P m' T x' lo' hi' K:=by subst h_m h_x h_lo h_hi; rfl
@[congr] theorem Zjs {P:Program} {m:Mem} {m':Mem} {T:TypeId} {x:PV} {x':PV} {i:Nat} {K:PV→Prop} (h_m:m=m') (h_x:x=x'):Z6 P m T x i K=Z6 P m' T x' i K:=by subst h_m h_x; rfl
@[congr] theorem Zma {P:Program} {T:TypeId} {x:PV} {x':PV} {i:Nat} {K:PV→Prop} (h_x:x=x'):ZcN P T x i K=ZcN P T x' i K:=by subst h_x; rfl
@[congr] theorem Zjt {P:Program} {m:Mem} {m':Mem} {T:TypeId} {x:PV} {x':PV} {y:PV} {y':PV} {K:PV→Prop} (h_m:m=m') (h_x:x=x') (h_y:y=y'):Zk P m T x y K=Zk P m' T x' y' K:=by subst h_m h_x h_y; rfl
@[congr] theorem Zmb {P:Program} {T:TypeId} {x:PV} {x':PV} {y:PV} {y':PV} {K:PV→Prop} (h_x:x=x') (h_y:y=y'):ZbR P T x y K=ZbR P T x' y' K:=by subst h_x h_y; rfl
@[congr] theorem Zno {i:Nat} {x:PV} {x':PV} {K:PV→Prop} (h_x:x=x'):pExt i x K=pExt i x' K:=by subst h_x; rfl
@[congr] theorem Zl8 {P:Program} {T:TypeId} {ps:List (Nat × PV)} {ps':List (Nat × PV)} {K:PV→Prop} (h_ps:ps=ps'):ZcM P T ps K=ZcM P T ps' K:=by subst h_ps; rfl
@[congr] theorem Znp {P:Program} {m:Mem} {m':Mem} {T:TypeId} {x:PV} {x':PV} {K:PV→Prop} (h_m:m=m') (h_x:x=x'):pLen P m T x K=pLen P m' T x' K:=by subst h_m h_x; rfl
@[congr] theorem Zl2 {b:Bool} {ps:List PV} {ps':List PV} {K:PV→Prop} (h_ps:ps=ps'):Zbs b ps K=Zbs b ps' K:=by subst h_ps; rfl
@[congr] theorem Znk {ov:Option Value} {ov':Option Value} {K:PV→Prop} (h_ov:ov=ov'):optK ov K=optK ov' K:=by subst h_ov; rfl
@[congr] theorem ZnN {P:Program} {op:BinOp} {T:TypeId} {cs:List PV} {cs':List PV} {ds:List PV} {ds':List PV} {K:PV→Prop} (h_cs:cs=cs') (h_ds:ds=ds'):eqK P op T cs ds K=eqK P op T cs' ds' K:=by subst h_cs h_ds; rfl
@[congr] theorem Znq {m:Mem} {m':Mem} {x:PV} {x':PV} {K:PV→Prop} (h_m:m=m') (h_x:x=x'):pNil m x K=pNil m' x' K:=by subst h_m h_x; rfl
@[congr] theorem Zna {x:PV} {x':PV} {y:PV} {y':PV} {z:PV} {z':PV} {K:PV→Prop} (h_x:x=x') (h_y:y=y') (h_z:z=z'):Zhl x y z K=Zhl x' y' z' K:=by subst h_x h_y h_z; rfl
@[congr] theorem Zm7 {P:Program} {io:Bool} {wd:Nat} {nu:Nat} {nu':Nat} {f:FuncId} {ps:List PV} {ps':List PV} {m:Mem} {m':Mem} {KA:PV→Mem→Prop} (h_ps:ps=ps') (h_m:m=m') (h_nu:nu=nu'):ZbD P io wd nu f ps m KA=ZbD P io wd nu' f ps' m' KA:=by subst h_ps h_m h_nu; rfl
@[congr] theorem Znm {nu:Nat} {nu':Nat} {m:Mem} {m':Mem} {T:TypeId} {ocs:Option (List PV)} {ocs':Option (List PV)} {KA:PV→Mem→Prop} (h_nu:nu=nu') (h_m:m=m') (h_ocs:ocs=ocs'):pBox nu m T ocs KA=pBox nu' m' T ocs' KA:=by subst h_nu h_m h_ocs; rfl
@[congr] theorem Zji {P:Program} {nu:Nat} {nu':Nat} {m:Mem} {m':Mem} {T:TypeId} {k:Nat} {ps:List (Nat × PV)} {ps':List (Nat × PV)} {KA:PV→Mem→Prop} (h_nu:nu=nu') (h_m:m=m') (h_ps:ps=ps'):ZaB P nu m T k ps KA=ZaB P nu' m' T k ps' KA:=by subst h_nu h_m h_ps; rfl
@[congr] theorem Zm9 {P:Program} {nu:Nat} {nu':Nat} {m:Mem} {m':Mem} {T:TypeId} {x:PV} {x':PV} {y:PV} {y':PV} {KA:PV→Mem→Prop} (h_nu:nu=nu') (h_m:m=m') (h_x:x=x') (h_y:y=y'):Zds P nu m T x y KA=Zds P nu' m' T x' y' KA:=by subst h_nu h_m h_x h_y; rfl
@[congr] theorem Zmd {P:Program} {m:Mem} {m':Mem} {T:TypeId} {x:PV} {x':PV} {y:PV} {y':PV} {KA:PV→Mem→Prop} (h_m:m=m') (h_x:x=x') (h_y:y=y'):ZcO P m T x y KA=ZcO P m' T x' y' KA:=by subst h_m h_x h_y; rfl
@[congr] theorem Zl1 {P:Program} {nu:Nat} {nu':Nat} {m:Mem} {m':Mem} {T:TypeId} {x:PV} {x':PV} {y:PV} {y':PV} {KA:PV→Mem→Prop} (h_nu:nu=nu') (h_m:m=m') (h_x:x=x') (h_y:y=y'):Zap P nu m T x y KA=Zap P nu' m' T x' y' KA:=by subst h_nu h_m h_x h_y; rfl
@[congr] theorem Znn {P:Program} {io:Bool} {wd:Nat} {nu:Nat} {nu':Nat} {p:PV} {p':PV} {ps:List PV} {ps':List PV} {m:Mem} {m':Mem} {KA:PV→Mem→Prop} (h_nu:nu=nu') (h_p:p=p') (h_ps:ps=ps') (h_m:m=m'):pDyn P io wd nu p ps m KA=pDyn P io wd nu' p' ps' m' KA:=by subst h_nu h_p h_ps h_m; rfl
@[congr] theorem Znr {P:Program} {io:Bool} {wd:Nat} {nu:Nat} {nu':Nat} {o:Op} {t:List PV} {t':List PV} {m:Mem} {m':Mem} {KA:PV→Mem→Prop} (h_nu:nu=nu') (h_t:t=t') (h_m:m=m'):popA P io wd nu o t m KA=popA P io wd nu' o t' m' KA:=by subst h_nu h_t h_m; rfl
@[congr] theorem Znj {ops2:List Oper} {K:List PV→Mem→Prop} {g:List LE} {t:List PV} {t':List PV} {m:Mem} {m':Mem} (h_t:t=t') (h_m:m=m'):endD ops2 K g t m=endD ops2 K g t' m':=by subst h_t h_m; rfl
@[congr] theorem ZnW {P:Program} {n0:Nat} {code:Code} {Q:Exit→List PV→Mem→Prop} {t:List PV} {t':List PV} {m:Mem} {m':Mem} (h_t:t=t') (h_m:m=m'):pwp P n0 code Q t m=pwp P n0 code Q t' m':=by subst h_t h_m; rfl
@[congr] theorem Znc {K:List PV→Mem→Prop} {Q:Exit→List PV→Mem→Prop} {e:Exit} {e':Exit} {t:List PV} {t':List PV} {m:Mem} {m':Mem} (h_t:t=t') (h_m:m=m') (h_e:e=e'):ZbT K Q e t m=ZbT K Q e' t' m':=by subst h_t h_m h_e; rfl
@[congr] theorem Zl7 {id:Nat} {Q:Exit→List PV→Mem→Prop} {e:Exit} {e':Exit} {t:List PV} {t':List PV} {m:Mem} {m':Mem} (h_t:t=t') (h_m:m=m') (h_e:e=e'):ZcI id Q e t m=ZcI id Q e' t' m':=by subst h_t h_m h_e; rfl
class ZO (α:Type) where
 c:α→List PV
instance:ZO Int:=⟨cInt⟩
instance:ZO ByteArray:=⟨cStr⟩
instance:ZO Bool:=⟨ZfL⟩
section
variable {P:Program} {n0:Nat} {Q:Exit→List PV→Mem→Prop} {t t':List PV} {m m':Mem} {K:List PV→Mem→Prop} {KR:PV→Prop} {KA:PV→Mem→Prop}
theorem HexL {σ ο β:Type} {s:σ} {F:σ→Option β} {K:ο→Option β} {r:β} (h:(some (Sum.inl s)).bind (Zac F K)=some r):F s=some r:=h
theorem bexR {σ ο β:Type} {o:ο} {F:σ→Option β} {K:ο→Option β}:(some (Sum.inr o)).bind (Zac F K)=K o:=nrfl rfl
theorem bsr {α β γ δ:Type} {o:β} {F:α→Option γ} {G:β→Option γ} {K:γ→Option δ}:(Zac F G (Sum.inr o)).bind K=(G o).bind K:=nrfl rfl
theorem bsl {α β γ δ:Type} {o:α} {F:α→Option γ} {G:β→Option γ} {K:γ→Option δ}:(Zac F G (Sum.inl o)).bind K=(F o).bind K:=nrfl rfl
theorem Hc1k {α β:Type} {G:Prop} {b:Bool} {A B:Option α} {K:α→Option β} {r:β} (h:(cond b A B).bind K=some r) (hb:b=true) (k:A.bind K=some r→G):G:=k (Hc1 h hb)
theorem Hc2k {α β:Type} {G:Prop} {b:Bool} {A B:Option α} {K:α→Option β} {r:β} (h:(cond b A B).bind K=some r) (hb:b=false) (k:B.bind K=some r→G):G:=k (Hc2 h hb)
theorem Znv {c:Bool} {y n:List PV→Prop} {i:Nat} (h:Zcw c y n t i):Zcw c y n t i:=h
theorem idxS {T:TypeId} {es:List (List PV)} {i:PV} (h:Zk P m T (.sl es) i KR):Zk P m T (.sl es) i KR:=h
def mkOk (n bytes:Int):Bool:=decide (0≤n∧n≤1099511627776∧bytes*n≤140737488355328)
theorem mkS {T:TypeId} {ν:Nat} {x y:PV} (h:Zds P ν m T x y KA):Zds P ν m T x y KA:=h
theorem ZmL {T e k ν:Nat} {n b:Int} {zc:List PV} (hok:mkOk n b=true) (hu:P.underlying T=some (.slice e)) (hz:pz P e=some zc) (hb:(P.bytesOf e:Int)=b) (hc:P.cellsOf e=k) (hzl:zc.length=k) (hp:decide (0<k)=true) (hK:KA (.ms ν) (mput m ν ⟨e,k,List.replicate n.toNat zc⟩)):Zds P ν m T (vi n) (vi n) KA:=by
 subst hb hc
 have hok':=of_decide_eq_true hok
 simp only [Zds,hu,hz]
 exact ⟨trivial,hok'.1,of_decide_eq_true hp,hzl,hok'.2.1,hok'.2.2,hK⟩
theorem Zce {ρ:Nat→Option Nat}:∀ {cs:List PV},(∀ q∈cs,isC q=true)→cutL ρ m m' cs cs
 | [],_=>trivial
 | c::cs,h=>⟨.c c (h c List.mem_cons_self),Zce fun q hq=>h q (List.mem_cons_of_mem _ hq)⟩
theorem Zgw {α:Type} {f:α→List PV} [hf:Zr f] {ρ:Nat→Option Nat}:∀ {xs:List α},cutE ρ m m' (xs.map f) (xs.map f)
 | []=>trivial
 | x::xs=>⟨Zce (hf.h x),Zgw⟩
theorem Zgy {α:Type} {f:α→List PV} [hf:Zr f] {ρ:Nat→Option Nat} {cs:List PV} {x:α} (h:cutL ρ m m' cs (f x)):∀ {xs:List α} {n:Nat},cutE ρ m m' ((xs.map f).set n cs) ((xs.set n x).map f)
 | [],_=>trivial
 | y::ys,0=>⟨h,Zgw⟩
 | y::ys,n+1=>⟨Zce (hf.h y),Zgy h⟩
theorem Zgx {α:Type} {f:α→List PV} {ρ:Nat→Option Nat} {cs:List PV} {x:α} (h:cutL ρ m m' cs (f x)):∀ {n:Nat},cutE ρ m m' (List.replicate n cs) ((List.replicate n x).map f)
 | 0=>trivial
 | n+1=>⟨h,Zgx h⟩
theorem Ze0 {α:Type} {f:α→List PV} [hf:Zr f] {ρ:Nat→Option Nat} {cs:List PV} {x:α} (h:cutL ρ m m' cs (f x)):∀ {xs:List α},cutE ρ m m' (xs.map f++[cs]) ((xs++[x]).map f)
 | []=>⟨h,trivial⟩
 | y::ys=>⟨Zce (hf.h y),Ze0 h⟩
theorem Zgu {α:Type} {f:α→List PV} [Zr f] {ρ:Nat→Option Nat} {T k n:Nat} {cs:List PV} {x:α} {xs:List α} (h:cutL ρ m m' cs (f x)):cutF ρ m m' ⟨T,k,(xs.map f).set n cs⟩ ⟨T,k,(xs.set n x).map f⟩:=⟨⟨rfl,rfl,.inr (Zgy h)⟩,Ze1 rfl⟩
theorem ZjB {α:Type} {f:α→List PV} {ρ:Nat→Option Nat} {T k n:Nat} {cs:List PV} {x:α} (h:cutL ρ m m' cs (f x)):cutF ρ m m' ⟨T,k,List.replicate n cs⟩ ⟨T,k,(List.replicate n x).map f⟩:=⟨⟨rfl,rfl,.inr (Zgx h)⟩,Ze1 rfl⟩
theorem ZkF {ρ:Nat→Option Nat} {T k:Nat} {es es':List (List PV)} (h:cutE ρ m m' es es'):cutF ρ m m' ⟨T,k,es⟩ ⟨T,k,es'⟩:=⟨⟨rfl,rfl,.inr h⟩,Ze1 rfl⟩
theorem Zmg {ρ:Nat→Option Nat}:cutE ρ m m' [] []:=trivial
theorem Zmf {ρ:Nat→Option Nat} {cs ds:List PV} {es es':List (List PV)} (h:cutL ρ m m' cs ds) (h':cutE ρ m m' es es'):cutE ρ m m' (cs::es) (ds::es'):=⟨h,h'⟩
theorem Zjz {ρ:Nat→Option Nat} {T k:Nat}:cutF ρ m m' ⟨T,k,[]⟩ ⟨T,k,[]⟩:=ZkF trivial
theorem ZjC {ρ:Nat→Option Nat} {T k:Nat} {a b c d:List PV} {es es':List (List PV)} (h:cutE ρ m m' (a::b::es) (c::d::es')):cutF ρ m m' ⟨T,k,a::b::es⟩ ⟨T,k,c::d::es'⟩:=ZkF h
theorem Zh2 {α:Type} {f:α→List PV} [Zr f] {ρ:Nat→Option Nat} {T k:Nat} {cs:List PV} {x:α} {xs:List α} (h:cutL ρ m m' cs (f x)):cutF ρ m m' ⟨T,k,xs.map f++[cs]⟩ ⟨T,k,(xs++[x]).map f⟩:=⟨⟨rfl,rfl,.inr (Ze0 h)⟩,Ze1 rfl⟩
theorem idxM {T:TypeId} {l:Nat} {i:PV} (h:Zk P m T (.ms l) i KR):Zk P m T (.ms l) i KR:=h
theorem Zll {α:Type} [ZO α] {xs:List α} {x:α} {T T':TypeId} {l k':Nat} {i:Int} {k:IntKind} (h:getI xs i=some x) (hm:look m l=some ⟨T',k',xs.map ZO.c⟩) (hp:0<ZaZ P T) (hk:k'=ZaZ P T) (hK:KR (.be l i.toNat 0)):Zk P m T (.ms l) (.v (.int k i)) KR:=ZmE h hm hp hk hK
theorem Ze8 {α:Type} {f:α→List PV} {xs:List α} {x:α} {i:Int} (h:getI xs i=some x):(xs.map f)[i.toNat]?=some (f x):=by
 rw [List.getElem?_map,(Zdh h).2]; rfl
theorem Zi3 {α:Type} [ZO α] {xs:List α} {T T':TypeId} {r k:Nat} {lo hi:Option PV} {l h:Int} (hok:slOk l h xs.length=true) (hm:look m r=some ⟨T',k,xs.map ZO.c⟩) (hlo:pBd lo 0=some l) (hhi:pBd hi xs.length=some h) (hp:0<ZaZ P T) (hk:k=ZaZ P T) (hK:KR (.ss r l.toNat h.toNat)):ZaC P m T (.ms r) lo hi KR:=by
 obtain ⟨e,hu,he⟩:=Zcf hp
 rw [he] at hp hk
 have hok':=of_decide_eq_true hok
 simp only [ZaC,hu,Zbq,hm,List.length_map,hlo,hhi]
 exact ⟨hok'.1,hok'.2.1,hok'.2.2,hp,hk,hK⟩
theorem Zm0 {α:Type} [ZO α] {xs:List α} {T':TypeId} {r k:Nat} {a b:Int} (hm:look m r=some ⟨T',k,xs.map ZO.c⟩):ZbI m (.ss r a.toNat b.toNat)=some ((subL xs a b).map ZO.c):=by
 have h:=ZaD.1 hm
 simp only [ZbI,h,Zb6,Zb9,subL]
theorem Zi6 {α:Type} [ZO α] {xs:List α} {T':TypeId} {r k A B:Nat} {a b:Int} (hm:look m r=some ⟨T',k,xs.map ZO.c⟩) (hA:A=a.toNat) (hB:B=b.toNat):ZbI m (.ss r A B)=some ((subL xs a b).map ZO.c):=by subst hA hB; exact Zm0 hm
theorem Zmx {cs:List PV} (h:cs.all isC=true):ZbG false (.ag cs):=fun c hc=>ZbV (List.all_eq_true.1 h c hc)
theorem Zmy {cs:List PV} (h:cs.all isF=true):ZbG true (.ag cs):=fun c hc=>ZgF (List.all_eq_true.1 h c hc)
theorem Zmz {ps:List PV} (h:ps.all isCA=true):ZbG false (.tu ps):=fun c hc=>(ZcY (σ:=id) (List.all_eq_true.1 h c hc)).2.1
theorem idxB {T:TypeId} {s:ByteArray} {i:PV} (h:ZbR P T (.v (.string s)) i KR):ZbR P T (.v (.string s)) i KR:=h
theorem slcS {T:TypeId} {x:PV} {lo hi:Option PV} (h:ZaC P m T x lo hi KR):ZaC P m T x lo hi KR:=h
theorem appS {T:TypeId} {ν:Nat} {x y:PV} (h:Zap P ν m T x y KA):Zap P ν m T x y KA:=h
theorem Zni {f:FuncId} {ps:List PV} {io:Bool} {wd ν:Nat} (h:ZbD P io wd ν f ps m KA):ZbD P io wd ν f ps m KA:=h
theorem optS {o:Option Value} (h:optK o KR):optK o KR:=h
theorem Znx {c:Code} (h:pwp P n0 (.loop c) Q t m):pwp P n0 (.loop c) Q t m:=h
theorem cutS (h:Cuts n0 t m t' m'):Cuts n0 t m t' m':=h
theorem all_nil {α:Type} {p:α→Prop}:(∀ x∈([]:List α),p x)=True:=by simp
theorem all_cons {α:Type} {p:α→Prop} {a:α} {as_:List α}:(∀ x∈a::as_,p x)=(p a∧∀ x∈as_,p x):=by simp
theorem ZmU {cs:List PV}:rdp m (.rp cs)=some cs:=nrfl rfl
theorem ZkV {α:Type} [ZO α] {xs ys:List α} {T:TypeId} {ν l e k n b:Nat} {x:PV} {zc:List PV} (hok:ZdC (xs.length+ys.length) b=true) (hu:P.underlying T=some (.slice e)) (hz:pz P e=some zc) (hb:P.bytesOf e=b) (hc:P.cellsOf e=n) (hl:look m l=some ⟨e,k,xs.map ZO.c⟩) (hsrc:ZbI m x=some (ys.map ZO.c))
 (hzl:zc.length=n) (hp:decide (0<n)=true) (hf:∀ x:α,(ZO.c x).length=n) (hk:k=n) (hK:KA (.ms ν) (mput (m.set l none) ν ⟨e,k,(xs++ys).map ZO.c⟩)):Zap P ν m T (.ms l) x KA:=by
 subst hb hc
 exact Zl5 hok hu hz hsrc hl hzl (of_decide_eq_true hp) hf hk hK
theorem ZkW {α:Type} [ZO α] {ys:List α} {T:TypeId} {ν e n b:Nat} {x:PV} {zc:List PV} (hok:ZdC ys.length b=true) (hu:P.underlying T=some (.slice e)) (hz:pz P e=some zc) (hb:P.bytesOf e=b) (hc:P.cellsOf e=n) (hsrc:ZbI m x=some (ys.map ZO.c))
 (hzl:zc.length=n) (hp:decide (0<n)=true) (hf:∀ x:α,(ZO.c x).length=n) (hK:KA (.ms ν) (mput m ν ⟨e,n,ys.map ZO.c⟩)):Zap P ν m T (.v (.slice none 0 0)) x KA:=by
 subst hb hc
 exact Zl6 hok hu hz hsrc hzl (of_decide_eq_true hp) hf hK
theorem Zij {b:Bool}:∀ mb,some mb∈([]:Mem)→∀ cs∈mb.es,∀ p∈cs,ZF b p:=by intro mb h; cases h
theorem Zd3 {α:Type} {f:α→List PV} [Zr f] {T k:Nat} {xs:List α}:∀ mb,some mb∈([some ⟨T,k,xs.map f⟩]:Mem)→∀ cs∈mb.es,∀ p∈cs,ZF false p:=by
 intro mb h
 simp only [List.mem_singleton,Option.some.injEq] at h
 subst h
 exact of_eq_true Zih
theorem Zei {α:Type} {f:α→List PV} [ZbZ f] {T k:Nat} {xs:List α}:∀ mb,some mb∈([some ⟨T,k,xs.map f⟩]:Mem)→∀ cs∈mb.es,∀ p∈cs,ZF true p:=by
 intro mb h
 simp only [List.mem_singleton,Option.some.injEq] at h
 subst h
 exact of_eq_true Zii
theorem hm_c {x:Option MB} {m:Mem} {b:Bool} (h1:∀ mb,some mb∈([x]:Mem)→∀ cs∈mb.es,∀ p∈cs,ZF b p) (h2:∀ mb,some mb∈m→∀ cs∈mb.es,∀ p∈cs,ZF b p):∀ mb,some mb∈(x::m)→∀ cs∈mb.es,∀ p∈cs,ZF b p:=by
 intro mb h
 rcases List.mem_cons.1 h with h | h
 ·exact h1 mb (by simp [h])
 ·exact h2 mb h
end
theorem ZnG {n:Nat} {qs:List PV}:(TK.of n).st qs=TK.of n:=nrfl rfl
theorem Zm1 {n:Nat} {es:List (List PV)}:(TK.of n).sts es=TK.of n:=nrfl rfl
attribute [go_sem] ZnG Zm1 U_z U_s ZmU ZnF ZnE ZkK ZkJ ZnB ZnA Znz Ziw ZhT ZlM ZlB ZjV ZjU Zkf ZlD ZlC Ziu ZiJ Zke Zkd ZlK ZlL Ziv ZjY Zil ZiI ZlA Zlj Zli ZmB ZmA ZmC ZiO ZiN Zie Zlf ZgC Zlh Zmw Zlg ZjS ZiF Zga Zly Zlx ZiG ZiE Zes Zhn ZiH Zfr Zhs ZdL Zhp ZdM Zhq Zfs Zho Zer Zj9 Zkb Zka Zhm Zj7 Zdw ZdN Zht Zf9 ZiD Zj8 Ziz ZmT ZgP ZgO ZmN ZmM Zlt Zlu ZmP ZmO ZmZ ZmX ZmY ZmS ZmR ZlP ZlR ZlQ Zfx ZiX Zhx Zc1 Zcj Zb6 Zb9 pBin binV pUn Z6 ZcN pExt pLen Zbs Zb1 aggd pBox pc ZcO pNil Zbw Zbl Zeb ZfG Zc4 ZdS Option.bind_some List.length_map if_true if_false Bool.false_eq_true List.map_cons List.map_nil List.toList_toArray beq_self_eq_true ite_self Int.toNat_natCast true_and and_true List.length_nil List.nil_append List.append_nil Nat.zero_add List.drop_zero List.drop_succ_cons List.take_zero List.take_succ_cons List.length_cons List.cons_append Option.map_some List.replicate_zero Bool.not_true Bool.not_false renV renA renC ren1 Z7 Zbh Zhl Zf4 ZbQ pBd Option.map_none ZcM ZdE ZaB Zcu ZdQ all_cons all_nil Nat.zero_lt_succ Nat.lt_add_one and_self
theorem Zcs {n:Int} (h:-9223372036854775808≤n∧n≤9223372036854775807):w64 n=n:=IntWalk.i64_in n h
theorem Zbi {i n:Nat} (hi:i<n) (hn:n≤1152921504606846976):w64 ((i:Int)+1)=((i+1:Nat):Int):=by
 rw [Zcs (by omega)]; omega
theorem Zbd {α:Type} {xs:List α} {i:Nat}:getI xs (i:Int)=xs[i]?:=by
 unfold getI; rw [if_pos (by omega)]; simp
theorem ZcQ {b:Bool} (h:b=true):chk b=some ():=by subst h; rfl
def runL {A α ο:Type} (F:Nat→A→α→Option (A ⊕ ο)) (E:A→Option ο):Nat→List α→A→Option ο
 | _,[],a=>E a
 | i,x::xs,a=>(F i a x).bind (Zac (fun a'=>runL F E (i+1) xs a') some)
theorem Zfb {A α σ ο:Type} {xs:List α} {body:σ→Option (σ ⊕ ο)} {mk:A→Int→σ} {F:Nat→A→α→Option (A ⊕ ο)} {E:A→Option ο}
 (h1:∀ a (i:Nat) x,xs[i]?=some x→body (mk a i)=(F i a x).bind (Zac (fun a'=>some (.inl (mk a' ((i+1:Nat):Int)))) (fun r=>some (.inr r))))
 (h2:∀ a,body (mk a (xs.length:Int))=(E a).bind fun r=>some (.inr r)):
 ∀ (ys:List α) (i:Nat) (N:Nat) (a:A),xs.drop i=ys→i≤xs.length→ys.length<N→Zg body N (mk a i)=runL F E i ys a
 | [],i,0,a,_,_,hN=>by omega
 | [],i,N+1,a,hd,hi,hN=>by
  have:i=xs.length:=by have:=congrArg List.length hd; simp at this; omega
  subst this
  simp only [Zg,runL,h2]
  cases E a <;> rfl
 | y::ys,i,0,a,_,_,hN=>by simp at hN
 | y::ys,i,N+1,a,hd,hi,hN=>by
  have hy:xs[i]?=some y:=by
   have:=congrArg (fun l=>l[0]?) hd
   simpa using this
  have hlt:i<xs.length:=(List.getElem?_eq_some_iff.1 hy).1
  have hd':xs.drop (i+1)=ys:=by
   have:=congrArg (List.drop 1) hd
   simpa [List.drop_drop] using this
  simp only [Zg,runL,h1 a i y hy]
  cases hF:F i a y with
  | none=>rfl
  | some o=>
   cases o with
   | inl a'=>
    show Zg body N (mk a' ((i+1:Nat):Int))=runL F E (i+1) ys a'
    exact Zfb h1 h2 ys (i+1) N a' hd' hlt (by simp at hN; omega)
   | inr r=>rfl
theorem Zin {A α σ ο:Type} {xs:List α} {body:σ→Option (σ ⊕ ο)} {N:Nat} (mk:A→Int→σ) (F:Nat→A→α→Option (A ⊕ ο)) (E:A→Option ο)
 (h1:∀ a (i:Nat) x,xs[i]?=some x→body (mk a i)=(F i a x).bind (Zac (fun a'=>some (.inl (mk a' ((i+1:Nat):Int)))) (fun r=>some (.inr r))))
 (h2:∀ a,body (mk a (xs.length:Int))=(E a).bind fun r=>some (.inr r)) (hN:xs.length<N) (a:A):Zg body N (mk a 0)=runL F E 0 xs a:=
 Zfb h1 h2 xs 0 N a rfl (Nat.zero_le _) hN
theorem Zfz {α ο:Type} {o:ο}:∀ (xs:List α) (i:Nat),runL (fun _ (_:Unit) (_:α)=>some (.inl ())) (fun _=>some o) i xs ()=some o
 | [],i=>rfl
 | x::xs,i=>by simp only [runL]; exact Zfz xs (i+1)
theorem ZgL {σ ο:Type} {body:σ→Option (σ ⊕ ο)} (I:Nat→σ→Prop) (hI:∀ k s,I k s→∃ o,body s=some o∧∀ s',o=.inl s'→∃ k',k'<k∧I k' s'):∀ (N k:Nat) (s:σ),I k s→k<N→∃ o,Zg body N s=some o
 | 0,k,s,_,hN=>by omega
 | N+1,k,s,h,hN=>by
  obtain ⟨o,hb,hn⟩:=hI k s h
  simp only [Zg,hb]
  cases o with
  | inr r=>exact ⟨r,rfl⟩
  | inl s'=>
   obtain ⟨k',hk,hi⟩:=hn s' rfl
   exact ZgL I hI N k' s' hi (by omega)
theorem Zfd {α ο:Type} {xs:List α} {body:Int→Option (Int ⊕ ο)} {o:ο} (h1:∀ (i:Nat) x,xs[i]?=some x→body (i:Int)=some (.inl ((i+1:Nat):Int))) (h2:body (xs.length:Int)=some (.inr o)) (hN:xs.length<NN):Zg body NN 0=some o:=by
 refine (Zin (A:=Unit) (fun _ i=>i) (fun _ _ _=>some (.inl ())) (fun _=>some o) ?_ ?_ hN ()).trans (Zfz xs 0)
 ·intro a i x hx; rw [h1 i x hx]; rfl
 ·intro a; rw [h2]; rfl
theorem Zfa {α:Type} {xs:List α} {z:α} {body:Int × List α→Option ((Int × List α) ⊕ List α)}
 (h1:∀ (i:Nat) (out:List α) x,xs[i]?=some x→out.length=xs.length→body ((i:Int),out)=some (.inl (((i+1:Nat):Int),out.set i x)))
 (h2:∀ out:List α,body ((xs.length:Int),out)=some (.inr out)) (hN:xs.length<NN):Zg body NN (0,List.replicate xs.length z)=some xs:=by
 have key:∀ (k i N:Nat) (out:List α),i+k=xs.length→k<N→out.length=xs.length→out.take i=xs.take i→Zg body N ((i:Int),out)=some xs:=by
  intro k
  induction k with
  | zero=>
   intro i N out hi hk hl ht
   cases N with
   | zero=>omega
   | succ N=>
    have hi':i=xs.length:=by omega
    subst hi'
    simp only [Zg,h2]
    have:out=xs:=by rw [← List.take_length (l:=out),hl,ht,List.take_length]
    rw [this]; rfl
  | succ k ih=>
   intro i N out hi hk hl ht
   cases N with
   | zero=>omega
   | succ N=>
    have hlt:i<xs.length:=by omega
    simp only [Zg,h1 i out xs[i] (List.getElem?_eq_getElem hlt) hl]
    refine ih (i+1) N _ (by omega) (by omega) (by simpa using hl) ?_
    rw [List.take_add_one,List.take_add_one,List.getElem?_set_self (by omega),List.getElem?_eq_getElem hlt,List.take_set_of_le (Nat.le_refl i),ht]
 exact key xs.length 0 NN _ (by omega) hN (by simp) (by simp)
theorem Zd7 {ο:Type} {body:Int→Option (Int ⊕ ο)} {n:Nat} {c:Nat→Bool} {r e:ο} (h1:∀ i:Nat,i<n→(∀ j,j<i→c j=true)→body (i:Int)=some (if c i=true then .inl ((i+1:Nat):Int) else .inr r)) (h2:(∀ j,j<n→c j=true)→body (n:Int)=some (.inr e)) (hN:n<NN):
 Zg body NN 0=some (if (List.range n).all c=true then e else r):=by
 have key:∀ (k i N:Nat),i+k=n→k<N→(∀ j,j<i→c j=true)→Zg body N (i:Int)=some (if (List.range n).all c=true then e else r):=by
  intro k
  induction k with
  | zero=>
   intro i N hi hk hj
   cases N with
   | zero=>omega
   | succ N=>
    have:i=n:=by omega
    subst this
    simp only [Zg,h2 hj]
    show some e=_
    rw [if_pos (List.all_eq_true.2 fun x hx=>hj x (List.mem_range.1 hx))]
  | succ k ih=>
   intro i N hi hk hj
   cases N with
   | zero=>omega
   | succ N=>
    simp only [Zg,h1 i (by omega) hj]
    by_cases hc:c i=true
    ·rw [if_pos hc]
     exact ih (i+1) N (by omega) (by omega) (fun j hj'=>by
      rcases Nat.lt_or_ge j i with h | h
      ·exact hj j h
      ·have:j=i:=by omega
       rw [this]; exact hc)
    ·rw [if_neg hc]
     show some r=_
     rw [if_neg fun hall=>hc (List.all_eq_true.1 hall i (List.mem_range.2 (by omega)))]
 exact key n 0 NN (by omega) hN (fun j hj=>by omega)
theorem ZiU {α:Type} (xs:List α) (p:α→Bool) (c:Nat→Bool) (h:∀ i (hi:i<xs.length),c i=p xs[i]):(List.range xs.length).all c=xs.all p:=by
 rw [Bool.eq_iff_iff,List.all_eq_true,List.all_eq_true]
 constructor
 ·intro H x hx
  obtain ⟨i,hi,rfl⟩:=List.getElem_of_mem hx
  rw [← h i hi]; exact H i (List.mem_range.2 hi)
 ·intro H i hi
  have hi':=List.mem_range.1 hi
  rw [h i hi']; exact H _ (List.getElem_mem hi')
theorem Zim {α ο:Type} {xs:List α} {body:Int→Option (Int ⊕ ο)} {p:α→Bool} {r e:ο} (h1:∀ i (hi:i<xs.length),body (i:Int)=some (if p xs[i]=true then .inr r else .inl ((i+1:Nat):Int))) (h2:body (xs.length:Int)=some (.inr e)) (hN:xs.length<NN):
 Zg body NN 0=some (if xs.any p=true then r else e):=by
 rw [Zd7 (n:=xs.length) (c:=fun i=>(xs[i]?.map fun x=>!p x).getD true) (r:=r) (e:=e) (fun i hi _=>?_) (fun _=>h2) hN,ZiU xs (fun x=>!p x) _ (fun i hi=>by simp [hi])]
 ·rw [List.all_eq_not_any_not]
  cases hb:xs.any p with
  | true=>simp [hb]
  | false=>simp [hb]
 ·rw [h1 i hi]
  simp only [List.getElem?_eq_getElem hi,Option.map_some,Option.getD_some]
  cases p xs[i] <;> rfl
attribute [go_sem] Tryz.underlying2
@[go_sem] theorem tc2:Tryz.prog.cellsOf 2=1:=by kernel_rfl
@[go_sem] theorem tb2:Tryz.prog.bytesOf 2=8:=by kernel_rfl
@[go_sem] theorem tz2:pz Tryz.prog 2=some [.v (.int .i64 0)]:=by kernel_rfl
attribute [go_sem] Tryz.underlying3
@[go_sem] theorem tc3:Tryz.prog.cellsOf 3=1:=by kernel_rfl
@[go_sem] theorem tb3:Tryz.prog.bytesOf 3=8:=by kernel_rfl
@[go_sem] theorem tz3:pz Tryz.prog 3=some [.v (.int .i64 0)]:=by kernel_rfl
attribute [go_sem] Tryz.underlying4
@[go_sem] theorem tc4:Tryz.prog.cellsOf 4=1:=by kernel_rfl
@[go_sem] theorem tb4:Tryz.prog.bytesOf 4=1:=by kernel_rfl
@[go_sem] theorem tz4:pz Tryz.prog 4=some [.v (.bool false)]:=by kernel_rfl
attribute [go_sem] Tryz.underlying5
@[go_sem] theorem tc5:Tryz.prog.cellsOf 5=1:=by kernel_rfl
@[go_sem] theorem tb5:Tryz.prog.bytesOf 5=1:=by kernel_rfl
@[go_sem] theorem tz5:pz Tryz.prog 5=some [.v (.int .u8 0)]:=by kernel_rfl
attribute [go_sem] Tryz.underlying9
@[go_sem] theorem tc9:Tryz.prog.cellsOf 9=1:=by kernel_rfl
@[go_sem] theorem tb9:Tryz.prog.bytesOf 9=16:=by kernel_rfl
@[go_sem] theorem tz9:pz Tryz.prog 9=some [.v (.string ⟨#[]⟩)]:=by kernel_rfl
attribute [go_sem] Tryz.underlying12
@[go_sem] theorem tc12:Tryz.prog.cellsOf 12=1:=by kernel_rfl
@[go_sem] theorem tb12:Tryz.prog.bytesOf 12=8:=by kernel_rfl
@[go_sem] theorem tz12:pz Tryz.prog 12=some [.v (.int .u64 0)]:=by kernel_rfl
attribute [go_sem] Tryz.underlying21
@[go_sem] theorem tc21:Tryz.prog.cellsOf 21=1:=by kernel_rfl
@[go_sem] theorem tb21:Tryz.prog.bytesOf 21=4:=by kernel_rfl
@[go_sem] theorem tz21:pz Tryz.prog 21=some [.v (.int .i32 0)]:=by kernel_rfl
attribute [go_sem] Tryz.underlying22
@[go_sem] theorem tc22:Tryz.prog.cellsOf 22=3:=by kernel_rfl
@[go_sem] theorem tb22:Tryz.prog.bytesOf 22=32:=by kernel_rfl
@[go_sem] theorem tz22:pz Tryz.prog 22=some [.v (.int .i64 0),.v (.int .i64 0),.v (.string ⟨#[]⟩)]:=by kernel_rfl
@[go_sem] theorem te22:Tryz.prog.eqGuardType Tryz.prog.depth 22=false:=by kernel_rfl
@[go_sem] theorem ts22:Tryz.prog.stoodInHeld 22=false:=by kernel_rfl
attribute [go_sem] Tryz.underlying23
@[go_sem] theorem tc23:Tryz.prog.cellsOf 23=3:=by kernel_rfl
@[go_sem] theorem tb23:Tryz.prog.bytesOf 23=32:=by kernel_rfl
@[go_sem] theorem tz23:pz Tryz.prog 23=some [.v (.int .i64 0),.v (.int .i64 0),.v (.string ⟨#[]⟩)]:=by kernel_rfl
@[go_sem] theorem te23:Tryz.prog.eqGuardType Tryz.prog.depth 23=false:=by kernel_rfl
@[go_sem] theorem ts23:Tryz.prog.stoodInHeld 23=false:=by kernel_rfl
attribute [go_sem] Tryz.underlying24
@[go_sem] theorem tc24:Tryz.prog.cellsOf 24=1:=by kernel_rfl
@[go_sem] theorem tb24:Tryz.prog.bytesOf 24=24:=by kernel_rfl
@[go_sem] theorem tz24:pz Tryz.prog 24=some [.v (.slice none 0 0)]:=by kernel_rfl
@[go_sem] theorem tk24:ZaZ Tryz.prog 24=1:=by kernel_rfl
attribute [go_sem] Tryz.underlying25
@[go_sem] theorem tc25:Tryz.prog.cellsOf 25=7:=by kernel_rfl
@[go_sem] theorem tb25:Tryz.prog.bytesOf 25=88:=by kernel_rfl
@[go_sem] theorem tz25:pz Tryz.prog 25=some [.v (.int .i64 0),.v (.int .i64 0),.v (.string ⟨#[]⟩),.v (.string ⟨#[]⟩),.v (.int .i64 0),.v (.slice none 0 0),.v (.int .i64 0)]:=by kernel_rfl
@[go_sem] theorem te25:Tryz.prog.eqGuardType Tryz.prog.depth 25=false:=by kernel_rfl
@[go_sem] theorem ts25:Tryz.prog.stoodInHeld 25=false:=by kernel_rfl
attribute [go_sem] Tryz.underlying26
@[go_sem] theorem tc26:Tryz.prog.cellsOf 26=7:=by kernel_rfl
@[go_sem] theorem tb26:Tryz.prog.bytesOf 26=88:=by kernel_rfl
@[go_sem] theorem tz26:pz Tryz.prog 26=some [.v (.int .i64 0),.v (.int .i64 0),.v (.string ⟨#[]⟩),.v (.string ⟨#[]⟩),.v (.int .i64 0),.v (.slice none 0 0),.v (.int .i64 0)]:=by kernel_rfl
@[go_sem] theorem te26:Tryz.prog.eqGuardType Tryz.prog.depth 26=false:=by kernel_rfl
@[go_sem] theorem ts26:Tryz.prog.stoodInHeld 26=false:=by kernel_rfl
attribute [go_sem] Tryz.underlying27
@[go_sem] theorem tc27:Tryz.prog.cellsOf 27=2:=by kernel_rfl
@[go_sem] theorem tb27:Tryz.prog.bytesOf 27=16:=by kernel_rfl
@[go_sem] theorem tz27:pz Tryz.prog 27=some [.v (.int .i64 0),.v (.int .i64 0)]:=by kernel_rfl
@[go_sem] theorem te27:Tryz.prog.eqGuardType Tryz.prog.depth 27=false:=by kernel_rfl
@[go_sem] theorem ts27:Tryz.prog.stoodInHeld 27=false:=by kernel_rfl
attribute [go_sem] Tryz.underlying28
@[go_sem] theorem tc28:Tryz.prog.cellsOf 28=2:=by kernel_rfl
@[go_sem] theorem tb28:Tryz.prog.bytesOf 28=16:=by kernel_rfl
@[go_sem] theorem tz28:pz Tryz.prog 28=some [.v (.int .i64 0),.v (.int .i64 0)]:=by kernel_rfl
@[go_sem] theorem te28:Tryz.prog.eqGuardType Tryz.prog.depth 28=false:=by kernel_rfl
@[go_sem] theorem ts28:Tryz.prog.stoodInHeld 28=false:=by kernel_rfl
attribute [go_sem] Tryz.underlying29
@[go_sem] theorem tc29:Tryz.prog.cellsOf 29=13:=by kernel_rfl
@[go_sem] theorem tb29:Tryz.prog.bytesOf 29=136:=by kernel_rfl
@[go_sem] theorem tz29:pz Tryz.prog 29=some [.v (.int .i64 0),.v (.int .i64 0),.v (.int .i64 0),.v (.string ⟨#[]⟩),.v (.string ⟨#[]⟩),.v (.int .i64 0),.v (.slice none 0 0),.v (.int .i64 0),.v (.int .i64 0),.v (.int .i64 0),.v (.int .i64 0),.v (.int .i64 0),.v (.int .i64 0)]:=by kernel_rfl
@[go_sem] theorem te29:Tryz.prog.eqGuardType Tryz.prog.depth 29=false:=by kernel_rfl
@[go_sem] theorem ts29:Tryz.prog.stoodInHeld 29=false:=by kernel_rfl
attribute [go_sem] Tryz.underlying30
@[go_sem] theorem tc30:Tryz.prog.cellsOf 30=13:=by kernel_rfl
@[go_sem] theorem tb30:Tryz.prog.bytesOf 30=136:=by kernel_rfl
@[go_sem] theorem tz30:pz Tryz.prog 30=some [.v (.int .i64 0),.v (.int .i64 0),.v (.int .i64 0),.v (.string ⟨#[]⟩),.v (.string ⟨#[]⟩),.v (.int .i64 0),.v (.slice none 0 0),.v (.int .i64 0),.v (.int .i64 0),.v (.int .i64 0),.v (.int .i64 0),.v (.int .i64 0),.v (.int .i64 0)]:=by kernel_rfl
@[go_sem] theorem te30:Tryz.prog.eqGuardType Tryz.prog.depth 30=false:=by kernel_rfl
@[go_sem] theorem ts30:Tryz.prog.stoodInHeld 30=false:=by kernel_rfl
attribute [go_sem] Tryz.underlying36
@[go_sem] theorem tc36:Tryz.prog.cellsOf 36=1:=by kernel_rfl
@[go_sem] theorem tb36:Tryz.prog.bytesOf 36=24:=by kernel_rfl
@[go_sem] theorem tz36:pz Tryz.prog 36=some [.v (.slice none 0 0)]:=by kernel_rfl
@[go_sem] theorem tk36:ZaZ Tryz.prog 36=13:=by kernel_rfl
attribute [go_sem] Tryz.underlying40
@[go_sem] theorem tc40:Tryz.prog.cellsOf 40=1:=by kernel_rfl
@[go_sem] theorem tb40:Tryz.prog.bytesOf 40=24:=by kernel_rfl
@[go_sem] theorem tz40:pz Tryz.prog 40=some [.v (.slice none 0 0)]:=by kernel_rfl
@[go_sem] theorem tk40:ZaZ Tryz.prog 40=1:=by kernel_rfl
attribute [go_sem] Tryz.underlying45
@[go_sem] theorem tc45:Tryz.prog.cellsOf 45=1:=by kernel_rfl
@[go_sem] theorem tb45:Tryz.prog.bytesOf 45=24:=by kernel_rfl
@[go_sem] theorem tz45:pz Tryz.prog 45=some [.v (.slice none 0 0)]:=by kernel_rfl
@[go_sem] theorem tk45:ZaZ Tryz.prog 45=13:=by kernel_rfl
attribute [go_sem] Tryz.underlying50
@[go_sem] theorem tc50:Tryz.prog.cellsOf 50=1:=by kernel_rfl
@[go_sem] theorem tb50:Tryz.prog.bytesOf 50=24:=by kernel_rfl
@[go_sem] theorem tz50:pz Tryz.prog 50=some [.v (.slice none 0 0)]:=by kernel_rfl
@[go_sem] theorem tk50:ZaZ Tryz.prog 50=1:=by kernel_rfl
attribute [go_sem] Tryz.underlying72
@[go_sem] theorem tc72:Tryz.prog.cellsOf 72=3:=by kernel_rfl
@[go_sem] theorem tb72:Tryz.prog.bytesOf 72=32:=by kernel_rfl
@[go_sem] theorem tz72:pz Tryz.prog 72=some [.v (.int .i64 0),.v (.int .i64 0),.v (.string ⟨#[]⟩)]:=by kernel_rfl
@[go_sem] theorem te72:Tryz.prog.eqGuardType Tryz.prog.depth 72=false:=by kernel_rfl
@[go_sem] theorem ts72:Tryz.prog.stoodInHeld 72=false:=by kernel_rfl
attribute [go_sem] Tryz.underlying73
@[go_sem] theorem tc73:Tryz.prog.cellsOf 73=7:=by kernel_rfl
@[go_sem] theorem tb73:Tryz.prog.bytesOf 73=88:=by kernel_rfl
@[go_sem] theorem tz73:pz Tryz.prog 73=some [.v (.int .i64 0),.v (.int .i64 0),.v (.string ⟨#[]⟩),.v (.string ⟨#[]⟩),.v (.int .i64 0),.v (.slice none 0 0),.v (.int .i64 0)]:=by kernel_rfl
@[go_sem] theorem te73:Tryz.prog.eqGuardType Tryz.prog.depth 73=false:=by kernel_rfl
@[go_sem] theorem ts73:Tryz.prog.stoodInHeld 73=false:=by kernel_rfl
attribute [go_sem] Tryz.underlying74
@[go_sem] theorem tc74:Tryz.prog.cellsOf 74=7:=by kernel_rfl
@[go_sem] theorem tb74:Tryz.prog.bytesOf 74=88:=by kernel_rfl
@[go_sem] theorem tz74:pz Tryz.prog 74=some [.v (.int .i64 0),.v (.int .i64 0),.v (.string ⟨#[]⟩),.v (.string ⟨#[]⟩),.v (.int .i64 0),.v (.slice none 0 0),.v (.int .i64 0)]:=by kernel_rfl
@[go_sem] theorem te74:Tryz.prog.eqGuardType Tryz.prog.depth 74=false:=by kernel_rfl
@[go_sem] theorem ts74:Tryz.prog.stoodInHeld 74=false:=by kernel_rfl
attribute [go_sem] Tryz.underlying75
@[go_sem] theorem tc75:Tryz.prog.cellsOf 75=2:=by kernel_rfl
@[go_sem] theorem tb75:Tryz.prog.bytesOf 75=16:=by kernel_rfl
@[go_sem] theorem tz75:pz Tryz.prog 75=some [.v (.int .i64 0),.v (.int .i64 0)]:=by kernel_rfl
@[go_sem] theorem te75:Tryz.prog.eqGuardType Tryz.prog.depth 75=false:=by kernel_rfl
@[go_sem] theorem ts75:Tryz.prog.stoodInHeld 75=false:=by kernel_rfl
attribute [go_sem] Tryz.underlying76
@[go_sem] theorem tc76:Tryz.prog.cellsOf 76=13:=by kernel_rfl
@[go_sem] theorem tb76:Tryz.prog.bytesOf 76=136:=by kernel_rfl
@[go_sem] theorem tz76:pz Tryz.prog 76=some [.v (.int .i64 0),.v (.int .i64 0),.v (.int .i64 0),.v (.string ⟨#[]⟩),.v (.string ⟨#[]⟩),.v (.int .i64 0),.v (.slice none 0 0),.v (.int .i64 0),.v (.int .i64 0),.v (.int .i64 0),.v (.int .i64 0),.v (.int .i64 0),.v (.int .i64 0)]:=by kernel_rfl
@[go_sem] theorem te76:Tryz.prog.eqGuardType Tryz.prog.depth 76=false:=by kernel_rfl
@[go_sem] theorem ts76:Tryz.prog.stoodInHeld 76=false:=by kernel_rfl
attribute [go_sem] Tryz.underlying77
@[go_sem] theorem tc77:Tryz.prog.cellsOf 77=13:=by kernel_rfl
@[go_sem] theorem tb77:Tryz.prog.bytesOf 77=136:=by kernel_rfl
@[go_sem] theorem tz77:pz Tryz.prog 77=some [.v (.int .i64 0),.v (.int .i64 0),.v (.int .i64 0),.v (.string ⟨#[]⟩),.v (.string ⟨#[]⟩),.v (.int .i64 0),.v (.slice none 0 0),.v (.int .i64 0),.v (.int .i64 0),.v (.int .i64 0),.v (.int .i64 0),.v (.int .i64 0),.v (.int .i64 0)]:=by kernel_rfl
@[go_sem] theorem te77:Tryz.prog.eqGuardType Tryz.prog.depth 77=false:=by kernel_rfl
@[go_sem] theorem ts77:Tryz.prog.stoodInHeld 77=false:=by kernel_rfl
attribute [go_sem] Tryz.underlying95
@[go_sem] theorem tc95:Tryz.prog.cellsOf 95=1:=by kernel_rfl
@[go_sem] theorem tb95:Tryz.prog.bytesOf 95=24:=by kernel_rfl
@[go_sem] theorem tz95:pz Tryz.prog 95=some [.v (.slice none 0 0)]:=by kernel_rfl
@[go_sem] theorem tk95:ZaZ Tryz.prog 95=6:=by kernel_rfl
attribute [go_sem] Tryz.underlying96
@[go_sem] theorem tc96:Tryz.prog.cellsOf 96=3:=by kernel_rfl
@[go_sem] theorem tb96:Tryz.prog.bytesOf 96=56:=by kernel_rfl
@[go_sem] theorem tz96:pz Tryz.prog 96=some [.v (.slice none 0 0),.v (.slice none 0 0),.v (.int .i64 0)]:=by kernel_rfl
@[go_sem] theorem te96:Tryz.prog.eqGuardType Tryz.prog.depth 96=false:=by kernel_rfl
@[go_sem] theorem ts96:Tryz.prog.stoodInHeld 96=false:=by kernel_rfl
attribute [go_sem] Tryz.underlying97
@[go_sem] theorem tc97:Tryz.prog.cellsOf 97=3:=by kernel_rfl
@[go_sem] theorem tb97:Tryz.prog.bytesOf 97=56:=by kernel_rfl
@[go_sem] theorem tz97:pz Tryz.prog 97=some [.v (.slice none 0 0),.v (.slice none 0 0),.v (.int .i64 0)]:=by kernel_rfl
@[go_sem] theorem te97:Tryz.prog.eqGuardType Tryz.prog.depth 97=false:=by kernel_rfl
@[go_sem] theorem ts97:Tryz.prog.stoodInHeld 97=false:=by kernel_rfl
attribute [go_sem] Tryz.underlying98
@[go_sem] theorem tc98:Tryz.prog.cellsOf 98=1:=by kernel_rfl
@[go_sem] theorem tb98:Tryz.prog.bytesOf 98=24:=by kernel_rfl
@[go_sem] theorem tz98:pz Tryz.prog 98=some [.v (.slice none 0 0)]:=by kernel_rfl
@[go_sem] theorem tk98:ZaZ Tryz.prog 98=11:=by kernel_rfl
attribute [go_sem] Tryz.underlying99
@[go_sem] theorem tc99:Tryz.prog.cellsOf 99=1:=by kernel_rfl
@[go_sem] theorem tb99:Tryz.prog.bytesOf 99=24:=by kernel_rfl
@[go_sem] theorem tz99:pz Tryz.prog 99=some [.v (.slice none 0 0)]:=by kernel_rfl
@[go_sem] theorem tk99:ZaZ Tryz.prog 99=4:=by kernel_rfl
attribute [go_sem] Tryz.underlying100
@[go_sem] theorem Zqc:Tryz.prog.cellsOf 100=1:=by kernel_rfl
@[go_sem] theorem ZpI:Tryz.prog.bytesOf 100=24:=by kernel_rfl
@[go_sem] theorem Zri:pz Tryz.prog 100=some [.v (.slice none 0 0)]:=by kernel_rfl
@[go_sem] theorem ZqU:ZaZ Tryz.prog 100=2:=by kernel_rfl
attribute [go_sem] Tryz.underlying101
@[go_sem] theorem Zqd:Tryz.prog.cellsOf 101=1:=by kernel_rfl
@[go_sem] theorem ZpJ:Tryz.prog.bytesOf 101=24:=by kernel_rfl
@[go_sem] theorem Zrj:pz Tryz.prog 101=some [.v (.slice none 0 0)]:=by kernel_rfl
@[go_sem] theorem ZqV:ZaZ Tryz.prog 101=6:=by kernel_rfl
attribute [go_sem] Tryz.underlying102
@[go_sem] theorem Zqe:Tryz.prog.cellsOf 102=10:=by kernel_rfl
@[go_sem] theorem ZpK:Tryz.prog.bytesOf 102=192:=by kernel_rfl
@[go_sem] theorem Zrk:pz Tryz.prog 102=some [.v (.slice none 0 0),.v (.slice none 0 0),.v (.int .i64 0),.v (.slice none 0 0),.v (.slice none 0 0),.v (.slice none 0 0),.v (.int .i64 0),.v (.slice none 0 0),.v (.slice none 0 0),.v (.int .i64 0)]:=by kernel_rfl
@[go_sem] theorem ZqD:Tryz.prog.eqGuardType Tryz.prog.depth 102=false:=by kernel_rfl
@[go_sem] theorem Zq1:Tryz.prog.stoodInHeld 102=false:=by kernel_rfl
attribute [go_sem] Tryz.underlying103
@[go_sem] theorem Zqf:Tryz.prog.cellsOf 103=10:=by kernel_rfl
@[go_sem] theorem ZpL:Tryz.prog.bytesOf 103=192:=by kernel_rfl
@[go_sem] theorem Zrl:pz Tryz.prog 103=some [.v (.slice none 0 0),.v (.slice none 0 0),.v (.int .i64 0),.v (.slice none 0 0),.v (.slice none 0 0),.v (.slice none 0 0),.v (.int .i64 0),.v (.slice none 0 0),.v (.slice none 0 0),.v (.int .i64 0)]:=by kernel_rfl
@[go_sem] theorem ZqE:Tryz.prog.eqGuardType Tryz.prog.depth 103=false:=by kernel_rfl
@[go_sem] theorem Zq2:Tryz.prog.stoodInHeld 103=false:=by kernel_rfl
attribute [go_sem] Tryz.underlying104
@[go_sem] theorem Zqg:Tryz.prog.cellsOf 104=1:=by kernel_rfl
@[go_sem] theorem ZpM:Tryz.prog.bytesOf 104=24:=by kernel_rfl
@[go_sem] theorem Zrm:pz Tryz.prog 104=some [.v (.slice none 0 0)]:=by kernel_rfl
@[go_sem] theorem ZqW:ZaZ Tryz.prog 104=2:=by kernel_rfl
attribute [go_sem] Tryz.underlying105
@[go_sem] theorem Zqh:Tryz.prog.cellsOf 105=1:=by kernel_rfl
@[go_sem] theorem ZpN:Tryz.prog.bytesOf 105=24:=by kernel_rfl
@[go_sem] theorem Zrn:pz Tryz.prog 105=some [.v (.slice none 0 0)]:=by kernel_rfl
@[go_sem] theorem ZqX:ZaZ Tryz.prog 105=4:=by kernel_rfl
attribute [go_sem] Tryz.underlying106
@[go_sem] theorem Zqi:Tryz.prog.cellsOf 106=1:=by kernel_rfl
@[go_sem] theorem ZpO:Tryz.prog.bytesOf 106=24:=by kernel_rfl
@[go_sem] theorem Zro:pz Tryz.prog 106=some [.v (.slice none 0 0)]:=by kernel_rfl
@[go_sem] theorem ZqY:ZaZ Tryz.prog 106=7:=by kernel_rfl
attribute [go_sem] Tryz.underlying107
@[go_sem] theorem Zqj:Tryz.prog.cellsOf 107=1:=by kernel_rfl
@[go_sem] theorem ZpP:Tryz.prog.bytesOf 107=24:=by kernel_rfl
@[go_sem] theorem Zrp:pz Tryz.prog 107=some [.v (.slice none 0 0)]:=by kernel_rfl
@[go_sem] theorem ZqZ:ZaZ Tryz.prog 107=4:=by kernel_rfl
attribute [go_sem] Tryz.underlying108
@[go_sem] theorem Zqk:Tryz.prog.cellsOf 108=16:=by kernel_rfl
@[go_sem] theorem ZpQ:Tryz.prog.bytesOf 108=336:=by kernel_rfl
@[go_sem] theorem Zrq:pz Tryz.prog 108=some [.v (.slice none 0 0),.v (.slice none 0 0),.v (.int .i64 0),.v (.slice none 0 0),.v (.slice none 0 0),.v (.slice none 0 0),.v (.int .i64 0),.v (.slice none 0 0),.v (.slice none 0 0),.v (.int .i64 0),.v (.slice none 0 0),.v (.slice none 0 0),.v (.slice none 0 0),.v (.slice none 0 0),.v (.slice none 0 0),.v (.slice none 0 0)]:=by kernel_rfl
@[go_sem] theorem ZqF:Tryz.prog.eqGuardType Tryz.prog.depth 108=false:=by kernel_rfl
@[go_sem] theorem Zq3:Tryz.prog.stoodInHeld 108=false:=by kernel_rfl
attribute [go_sem] Tryz.underlying109
@[go_sem] theorem Zql:Tryz.prog.cellsOf 109=16:=by kernel_rfl
@[go_sem] theorem ZpR:Tryz.prog.bytesOf 109=336:=by kernel_rfl
@[go_sem] theorem Zrr:pz Tryz.prog 109=some [.v (.slice none 0 0),.v (.slice none 0 0),.v (.int .i64 0),.v (.slice none 0 0),.v (.slice none 0 0),.v (.slice none 0 0),.v (.int .i64 0),.v (.slice none 0 0),.v (.slice none 0 0),.v (.int .i64 0),.v (.slice none 0 0),.v (.slice none 0 0),.v (.slice none 0 0),.v (.slice none 0 0),.v (.slice none 0 0),.v (.slice none 0 0)]:=by kernel_rfl
@[go_sem] theorem ZqG:Tryz.prog.eqGuardType Tryz.prog.depth 109=false:=by kernel_rfl
@[go_sem] theorem Zq4:Tryz.prog.stoodInHeld 109=false:=by kernel_rfl
attribute [go_sem] Tryz.underlying122
@[go_sem] theorem Zqm:Tryz.prog.cellsOf 122=3:=by kernel_rfl
@[go_sem] theorem ZpS:Tryz.prog.bytesOf 122=40:=by kernel_rfl
@[go_sem] theorem Zrs:pz Tryz.prog 122=some [.v (.slice none 0 0),.v (.int .i64 0),.v (.int .i64 0)]:=by kernel_rfl
@[go_sem] theorem ZqH:Tryz.prog.eqGuardType Tryz.prog.depth 122=false:=by kernel_rfl
@[go_sem] theorem Zq5:Tryz.prog.stoodInHeld 122=false:=by kernel_rfl
attribute [go_sem] Tryz.underlying123
@[go_sem] theorem Zqn:Tryz.prog.cellsOf 123=3:=by kernel_rfl
@[go_sem] theorem ZpT:Tryz.prog.bytesOf 123=40:=by kernel_rfl
@[go_sem] theorem Zrt:pz Tryz.prog 123=some [.v (.slice none 0 0),.v (.int .i64 0),.v (.int .i64 0)]:=by kernel_rfl
@[go_sem] theorem ZqI:Tryz.prog.eqGuardType Tryz.prog.depth 123=false:=by kernel_rfl
@[go_sem] theorem Zq6:Tryz.prog.stoodInHeld 123=false:=by kernel_rfl
attribute [go_sem] Tryz.underlying138
@[go_sem] theorem Zqo:Tryz.prog.cellsOf 138=1:=by kernel_rfl
@[go_sem] theorem ZpU:Tryz.prog.bytesOf 138=8:=by kernel_rfl
@[go_sem] theorem Zru:pz Tryz.prog 138=some [.v (.int .u64 0)]:=by kernel_rfl
attribute [go_sem] Tryz.underlying157
@[go_sem] theorem Zqp:Tryz.prog.cellsOf 157=6:=by kernel_rfl
@[go_sem] theorem ZpV:Tryz.prog.bytesOf 157=64:=by kernel_rfl
@[go_sem] theorem Zrv:pz Tryz.prog 157=some [.v (.string ⟨#[]⟩),.v (.string ⟨#[]⟩),.v (.int .i64 0),.v (.int .i64 0),.v (.int .i64 0),.v (.int .i64 0)]:=by kernel_rfl
@[go_sem] theorem ZqJ:Tryz.prog.eqGuardType Tryz.prog.depth 157=false:=by kernel_rfl
@[go_sem] theorem Zq7:Tryz.prog.stoodInHeld 157=false:=by kernel_rfl
attribute [go_sem] Tryz.underlying158
@[go_sem] theorem ZnH:Tryz.prog.cellsOf 158=6:=by kernel_rfl
@[go_sem] theorem ZpW:Tryz.prog.bytesOf 158=64:=by kernel_rfl
@[go_sem] theorem Zrw:pz Tryz.prog 158=some [.v (.string ⟨#[]⟩),.v (.string ⟨#[]⟩),.v (.int .i64 0),.v (.int .i64 0),.v (.int .i64 0),.v (.int .i64 0)]:=by kernel_rfl
@[go_sem] theorem Zm3:Tryz.prog.eqGuardType Tryz.prog.depth 158=false:=by kernel_rfl
@[go_sem] theorem ZnK:Tryz.prog.stoodInHeld 158=false:=by kernel_rfl
attribute [go_sem] Tryz.underlying159
@[go_sem] theorem Zqq:Tryz.prog.cellsOf 159=2:=by kernel_rfl
@[go_sem] theorem ZpX:Tryz.prog.bytesOf 159=32:=by kernel_rfl
@[go_sem] theorem Zrx:pz Tryz.prog 159=some [.v (.string ⟨#[]⟩),.v (.string ⟨#[]⟩)]:=by kernel_rfl
@[go_sem] theorem ZqK:Tryz.prog.eqGuardType Tryz.prog.depth 159=false:=by kernel_rfl
@[go_sem] theorem Zq8:Tryz.prog.stoodInHeld 159=false:=by kernel_rfl
attribute [go_sem] Tryz.underlying160
@[go_sem] theorem Zqr:Tryz.prog.cellsOf 160=2:=by kernel_rfl
@[go_sem] theorem ZpY:Tryz.prog.bytesOf 160=32:=by kernel_rfl
@[go_sem] theorem Zry:pz Tryz.prog 160=some [.v (.string ⟨#[]⟩),.v (.string ⟨#[]⟩)]:=by kernel_rfl
@[go_sem] theorem ZqL:Tryz.prog.eqGuardType Tryz.prog.depth 160=false:=by kernel_rfl
@[go_sem] theorem Zq9:Tryz.prog.stoodInHeld 160=false:=by kernel_rfl
attribute [go_sem] Tryz.underlying161
@[go_sem] theorem Zqs:Tryz.prog.cellsOf 161=4:=by kernel_rfl
@[go_sem] theorem ZpZ:Tryz.prog.bytesOf 161=32:=by kernel_rfl
@[go_sem] theorem Zrz:pz Tryz.prog 161=some [.v (.int .i64 0),.v (.int .i64 0),.v (.int .i64 0),.v (.int .i64 0)]:=by kernel_rfl
@[go_sem] theorem ZqM:Tryz.prog.eqGuardType Tryz.prog.depth 161=false:=by kernel_rfl
@[go_sem] theorem Zra:Tryz.prog.stoodInHeld 161=false:=by kernel_rfl
attribute [go_sem] Tryz.underlying162
@[go_sem] theorem Zqt:Tryz.prog.cellsOf 162=4:=by kernel_rfl
@[go_sem] theorem Zp0:Tryz.prog.bytesOf 162=32:=by kernel_rfl
@[go_sem] theorem ZrA:pz Tryz.prog 162=some [.v (.int .i64 0),.v (.int .i64 0),.v (.int .i64 0),.v (.int .i64 0)]:=by kernel_rfl
@[go_sem] theorem ZqN:Tryz.prog.eqGuardType Tryz.prog.depth 162=false:=by kernel_rfl
@[go_sem] theorem Zrb:Tryz.prog.stoodInHeld 162=false:=by kernel_rfl
attribute [go_sem] Tryz.underlying179
@[go_sem] theorem Zqu:Tryz.prog.cellsOf 179=1:=by kernel_rfl
@[go_sem] theorem Zp1:Tryz.prog.bytesOf 179=4:=by kernel_rfl
@[go_sem] theorem ZrB:pz Tryz.prog 179=some [.v (.int .u32 0)]:=by kernel_rfl
attribute [go_sem] Tryz.underlying182
@[go_sem] theorem Zqv:Tryz.prog.cellsOf 182=1:=by kernel_rfl
@[go_sem] theorem Zp2:Tryz.prog.bytesOf 182=8:=by kernel_rfl
@[go_sem] theorem ZrC:pz Tryz.prog 182=some [.v (.int .u64 0)]:=by kernel_rfl
attribute [go_sem] Tryz.underlying199
@[go_sem] theorem Zqw:Tryz.prog.cellsOf 199=4:=by kernel_rfl
@[go_sem] theorem Zp3:Tryz.prog.bytesOf 199=32:=by kernel_rfl
@[go_sem] theorem ZrD:pz Tryz.prog 199=some [.v (.int .i64 0),.v (.int .i64 0),.v (.int .i64 0),.v (.int .i64 0)]:=by kernel_rfl
@[go_sem] theorem ZqO:Tryz.prog.eqGuardType Tryz.prog.depth 199=false:=by kernel_rfl
@[go_sem] theorem Zrc:Tryz.prog.stoodInHeld 199=false:=by kernel_rfl
attribute [go_sem] Tryz.underlying200
@[go_sem] theorem ZnI:Tryz.prog.cellsOf 200=4:=by kernel_rfl
@[go_sem] theorem Zp4:Tryz.prog.bytesOf 200=32:=by kernel_rfl
@[go_sem] theorem ZrE:pz Tryz.prog 200=some [.v (.int .i64 0),.v (.int .i64 0),.v (.int .i64 0),.v (.int .i64 0)]:=by kernel_rfl
@[go_sem] theorem Zm4:Tryz.prog.eqGuardType Tryz.prog.depth 200=false:=by kernel_rfl
@[go_sem] theorem ZnL:Tryz.prog.stoodInHeld 200=false:=by kernel_rfl
attribute [go_sem] Tryz.underlying205
@[go_sem] theorem Zqx:Tryz.prog.cellsOf 205=1:=by kernel_rfl
@[go_sem] theorem Zp5:Tryz.prog.bytesOf 205=24:=by kernel_rfl
@[go_sem] theorem ZrF:pz Tryz.prog 205=some [.v (.slice none 0 0)]:=by kernel_rfl
@[go_sem] theorem Zq0:ZaZ Tryz.prog 205=1:=by kernel_rfl
attribute [go_sem] Tryz.underlying212
@[go_sem] theorem Zqy:Tryz.prog.cellsOf 212=4:=by kernel_rfl
@[go_sem] theorem Zp6:Tryz.prog.bytesOf 212=32:=by kernel_rfl
@[go_sem] theorem ZrG:pz Tryz.prog 212=some [.v (.int .i64 0),.v (.int .i64 0),.v (.int .i64 0),.v (.int .i64 0)]:=by kernel_rfl
@[go_sem] theorem ZqP:Tryz.prog.eqGuardType Tryz.prog.depth 212=false:=by kernel_rfl
@[go_sem] theorem Zrd:Tryz.prog.stoodInHeld 212=false:=by kernel_rfl
attribute [go_sem] Tryz.underlying213
@[go_sem] theorem Zqz:Tryz.prog.cellsOf 213=4:=by kernel_rfl
@[go_sem] theorem Zp7:Tryz.prog.bytesOf 213=32:=by kernel_rfl
@[go_sem] theorem ZrH:pz Tryz.prog 213=some [.v (.int .i64 0),.v (.int .i64 0),.v (.int .i64 0),.v (.int .i64 0)]:=by kernel_rfl
@[go_sem] theorem ZqQ:Tryz.prog.eqGuardType Tryz.prog.depth 213=false:=by kernel_rfl
@[go_sem] theorem Zre:Tryz.prog.stoodInHeld 213=false:=by kernel_rfl
attribute [go_sem] Tryz.underlying245
@[go_sem] theorem ZqA:Tryz.prog.cellsOf 245=11:=by kernel_rfl
@[go_sem] theorem Zp8:Tryz.prog.bytesOf 245=128:=by kernel_rfl
@[go_sem] theorem ZrI:pz Tryz.prog 245=some [.v (.string ⟨#[]⟩),.v (.string ⟨#[]⟩),.v (.int .i64 0),.v (.int .i64 0),.v (.int .i64 0),.v (.int .i64 0),.v (.slice none 0 0),.v (.int .i64 0),.v (.int .i64 0),.v (.string ⟨#[]⟩),.v (.int .i64 0)]:=by kernel_rfl
@[go_sem] theorem ZqR:Tryz.prog.eqGuardType Tryz.prog.depth 245=false:=by kernel_rfl
@[go_sem] theorem Zrf:Tryz.prog.stoodInHeld 245=false:=by kernel_rfl
attribute [go_sem] Tryz.underlying246
@[go_sem] theorem ZqB:Tryz.prog.cellsOf 246=11:=by kernel_rfl
@[go_sem] theorem Zp9:Tryz.prog.bytesOf 246=128:=by kernel_rfl
@[go_sem] theorem ZrJ:pz Tryz.prog 246=some [.v (.string ⟨#[]⟩),.v (.string ⟨#[]⟩),.v (.int .i64 0),.v (.int .i64 0),.v (.int .i64 0),.v (.int .i64 0),.v (.slice none 0 0),.v (.int .i64 0),.v (.int .i64 0),.v (.string ⟨#[]⟩),.v (.int .i64 0)]:=by kernel_rfl
@[go_sem] theorem ZqS:Tryz.prog.eqGuardType Tryz.prog.depth 246=false:=by kernel_rfl
@[go_sem] theorem Zrg:Tryz.prog.stoodInHeld 246=false:=by kernel_rfl
attribute [go_sem] Tryz.underlying252
@[go_sem] theorem ZqC:Tryz.prog.cellsOf 252=6:=by kernel_rfl
@[go_sem] theorem Zqa:Tryz.prog.bytesOf 252=56:=by kernel_rfl
@[go_sem] theorem ZrK:pz Tryz.prog 252=some [.v (.int .i64 0),.v (.int .i64 0),.v (.int .i64 0),.v (.string ⟨#[]⟩),.v (.int .i64 0),.v (.int .i64 0)]:=by kernel_rfl
@[go_sem] theorem ZqT:Tryz.prog.eqGuardType Tryz.prog.depth 252=false:=by kernel_rfl
@[go_sem] theorem Zrh:Tryz.prog.stoodInHeld 252=false:=by kernel_rfl
attribute [go_sem] Tryz.underlying253
@[go_sem] theorem ZnJ:Tryz.prog.cellsOf 253=6:=by kernel_rfl
@[go_sem] theorem Zqb:Tryz.prog.bytesOf 253=56:=by kernel_rfl
@[go_sem] theorem ZrL:pz Tryz.prog 253=some [.v (.int .i64 0),.v (.int .i64 0),.v (.int .i64 0),.v (.string ⟨#[]⟩),.v (.int .i64 0),.v (.int .i64 0)]:=by kernel_rfl
@[go_sem] theorem Zm5:Tryz.prog.eqGuardType Tryz.prog.depth 253=false:=by kernel_rfl
@[go_sem] theorem ZnM:Tryz.prog.stoodInHeld 253=false:=by kernel_rfl
@[go_sem] theorem fn3:isFn Tryz.prog 3:=⟨_,Tryz.func3,rfl,by kernel_rfl⟩
@[go_sem] theorem fn4:isFn Tryz.prog 4:=⟨_,Tryz.func4,rfl,by kernel_rfl⟩
@[go_sem] theorem fn5:isFn Tryz.prog 5:=⟨_,Tryz.func5,rfl,by kernel_rfl⟩
@[go_sem] theorem fn6:isFn Tryz.prog 6:=⟨_,Tryz.func6,rfl,by kernel_rfl⟩
@[go_sem] theorem fn7:isFn Tryz.prog 7:=⟨_,Tryz.func7,rfl,by kernel_rfl⟩
@[go_sem] theorem fn8:isFn Tryz.prog 8:=⟨_,Tryz.func8,rfl,by kernel_rfl⟩
@[go_sem] theorem fn9:isFn Tryz.prog 9:=⟨_,Tryz.func9,rfl,by kernel_rfl⟩
@[go_sem] theorem fn10:isFn Tryz.prog 10:=⟨_,Tryz.func10,rfl,by kernel_rfl⟩
@[go_sem] theorem fn11:isFn Tryz.prog 11:=⟨_,Tryz.func11,rfl,by kernel_rfl⟩
@[go_sem] theorem fn12:isFn Tryz.prog 12:=⟨_,Tryz.func12,rfl,by kernel_rfl⟩
@[go_sem] theorem fn13:isFn Tryz.prog 13:=⟨_,Tryz.func13,rfl,by kernel_rfl⟩
@[go_sem] theorem fn14:isFn Tryz.prog 14:=⟨_,Tryz.func14,rfl,by kernel_rfl⟩
@[go_sem] theorem fn15:isFn Tryz.prog 15:=⟨_,Tryz.func15,rfl,by kernel_rfl⟩
@[go_sem] theorem fn16:isFn Tryz.prog 16:=⟨_,Tryz.func16,rfl,by kernel_rfl⟩
@[go_sem] theorem fn17:isFn Tryz.prog 17:=⟨_,Tryz.func17,rfl,by kernel_rfl⟩
@[go_sem] theorem fn18:isFn Tryz.prog 18:=⟨_,Tryz.func18,rfl,by kernel_rfl⟩
@[go_sem] theorem fn19:isFn Tryz.prog 19:=⟨_,Tryz.func19,rfl,by kernel_rfl⟩
@[go_sem] theorem fn20:isFn Tryz.prog 20:=⟨_,Tryz.func20,rfl,by kernel_rfl⟩
@[go_sem] theorem fn21:isFn Tryz.prog 21:=⟨_,Tryz.func21,rfl,by kernel_rfl⟩
@[go_sem] theorem fn22:isFn Tryz.prog 22:=⟨_,Tryz.func22,rfl,by kernel_rfl⟩
@[go_sem] theorem fn23:isFn Tryz.prog 23:=⟨_,Tryz.func23,rfl,by kernel_rfl⟩
@[go_sem] theorem fn24:isFn Tryz.prog 24:=⟨_,Tryz.func24,rfl,by kernel_rfl⟩
@[go_sem] theorem fn25:isFn Tryz.prog 25:=⟨_,Tryz.func25,rfl,by kernel_rfl⟩
@[go_sem] theorem fn26:isFn Tryz.prog 26:=⟨_,Tryz.func26,rfl,by kernel_rfl⟩
@[go_sem] theorem fn27:isFn Tryz.prog 27:=⟨_,Tryz.func27,rfl,by kernel_rfl⟩
@[go_sem] theorem fn28:isFn Tryz.prog 28:=⟨_,Tryz.func28,rfl,by kernel_rfl⟩
@[go_sem] theorem fn29:isFn Tryz.prog 29:=⟨_,Tryz.func29,rfl,by kernel_rfl⟩
@[go_sem] theorem fn30:isFn Tryz.prog 30:=⟨_,Tryz.func30,rfl,by kernel_rfl⟩
@[go_sem] theorem fn32:isFn Tryz.prog 32:=⟨_,Tryz.func32,rfl,by kernel_rfl⟩
@[go_sem] theorem fn33:isFn Tryz.prog 33:=⟨_,Tryz.func33,rfl,by kernel_rfl⟩
@[go_sem] theorem fn34:isFn Tryz.prog 34:=⟨_,Tryz.func34,rfl,by kernel_rfl⟩
@[go_sem] theorem fn35:isFn Tryz.prog 35:=⟨_,Tryz.func35,rfl,by kernel_rfl⟩
@[go_sem] theorem fn36:isFn Tryz.prog 36:=⟨_,Tryz.func36,rfl,by kernel_rfl⟩
@[go_sem] theorem fn37:isFn Tryz.prog 37:=⟨_,Tryz.func37,rfl,by kernel_rfl⟩
@[go_sem] theorem fn38:isFn Tryz.prog 38:=⟨_,Tryz.func38,rfl,by kernel_rfl⟩
@[go_sem] theorem fn40:isFn Tryz.prog 40:=⟨_,Tryz.func40,rfl,by kernel_rfl⟩
@[go_sem] theorem fn41:isFn Tryz.prog 41:=⟨_,Tryz.func41,rfl,by kernel_rfl⟩
@[go_sem] theorem fn42:isFn Tryz.prog 42:=⟨_,Tryz.func42,rfl,by kernel_rfl⟩
@[go_sem] theorem fn43:isFn Tryz.prog 43:=⟨_,Tryz.func43,rfl,by kernel_rfl⟩
@[go_sem] theorem fn44:isFn Tryz.prog 44:=⟨_,Tryz.func44,rfl,by kernel_rfl⟩
@[go_sem] theorem fn45:isFn Tryz.prog 45:=⟨_,Tryz.func45,rfl,by kernel_rfl⟩
@[go_sem] theorem fn46:isFn Tryz.prog 46:=⟨_,Tryz.func46,rfl,by kernel_rfl⟩
@[go_sem] theorem fn47:isFn Tryz.prog 47:=⟨_,Tryz.func47,rfl,by kernel_rfl⟩
@[go_sem] theorem fn48:isFn Tryz.prog 48:=⟨_,Tryz.func48,rfl,by kernel_rfl⟩
@[go_sem] theorem fn49:isFn Tryz.prog 49:=⟨_,Tryz.func49,rfl,by kernel_rfl⟩
@[go_sem] theorem fn50:isFn Tryz.prog 50:=⟨_,Tryz.func50,rfl,by kernel_rfl⟩
@[go_sem] theorem fn51:isFn Tryz.prog 51:=⟨_,Tryz.func51,rfl,by kernel_rfl⟩
@[go_sem] theorem fn52:isFn Tryz.prog 52:=⟨_,Tryz.func52,rfl,by kernel_rfl⟩
@[go_sem] theorem fn53:isFn Tryz.prog 53:=⟨_,Tryz.func53,rfl,by kernel_rfl⟩
@[go_sem] theorem fn56:isFn Tryz.prog 56:=⟨_,Tryz.func56,rfl,by kernel_rfl⟩
@[go_sem] theorem fn57:isFn Tryz.prog 57:=⟨_,Tryz.func57,rfl,by kernel_rfl⟩
@[go_sem] theorem fn58:isFn Tryz.prog 58:=⟨_,Tryz.func58,rfl,by kernel_rfl⟩
@[go_sem] theorem fn60:isFn Tryz.prog 60:=⟨_,Tryz.func60,rfl,by kernel_rfl⟩
@[go_sem] theorem fn63:isFn Tryz.prog 63:=⟨_,Tryz.func63,rfl,by kernel_rfl⟩
@[go_sem] theorem fn64:isFn Tryz.prog 64:=⟨_,Tryz.func64,rfl,by kernel_rfl⟩
@[go_sem] theorem fn66:isFn Tryz.prog 66:=⟨_,Tryz.func66,rfl,by kernel_rfl⟩
@[go_sem] theorem fn67:isFn Tryz.prog 67:=⟨_,Tryz.func67,rfl,by kernel_rfl⟩
@[go_sem] theorem fn68:isFn Tryz.prog 68:=⟨_,Tryz.func68,rfl,by kernel_rfl⟩
@[go_sem] theorem fn69:isFn Tryz.prog 69:=⟨_,Tryz.func69,rfl,by kernel_rfl⟩
@[go_sem] theorem fn70:isFn Tryz.prog 70:=⟨_,Tryz.func70,rfl,by kernel_rfl⟩
@[go_sem] theorem fn71:isFn Tryz.prog 71:=⟨_,Tryz.func71,rfl,by kernel_rfl⟩
@[go_sem] theorem fn72:isFn Tryz.prog 72:=⟨_,Tryz.func72,rfl,by kernel_rfl⟩
@[go_sem] theorem fn73:isFn Tryz.prog 73:=⟨_,Tryz.func73,rfl,by kernel_rfl⟩
@[go_sem] theorem fn74:isFn Tryz.prog 74:=⟨_,Tryz.func74,rfl,by kernel_rfl⟩
@[go_sem] theorem fn75:isFn Tryz.prog 75:=⟨_,Tryz.func75,rfl,by kernel_rfl⟩
@[go_sem] theorem fn76:isFn Tryz.prog 76:=⟨_,Tryz.func76,rfl,by kernel_rfl⟩
@[go_sem] theorem fn77:isFn Tryz.prog 77:=⟨_,Tryz.func77,rfl,by kernel_rfl⟩
@[go_sem] theorem fn78:isFn Tryz.prog 78:=⟨_,Tryz.func78,rfl,by kernel_rfl⟩
@[go_sem] theorem fn79:isFn Tryz.prog 79:=⟨_,Tryz.func79,rfl,by kernel_rfl⟩
@[go_sem] theorem fn80:isFn Tryz.prog 80:=⟨_,Tryz.func80,rfl,by kernel_rfl⟩
@[go_sem] theorem fn81:isFn Tryz.prog 81:=⟨_,Tryz.func81,rfl,by kernel_rfl⟩
@[go_sem] theorem fn83:isFn Tryz.prog 83:=⟨_,Tryz.func83,rfl,by kernel_rfl⟩
@[go_sem] theorem fn91:isFn Tryz.prog 91:=⟨_,Tryz.func91,rfl,by kernel_rfl⟩
@[go_sem] theorem fn92:isFn Tryz.prog 92:=⟨_,Tryz.func92,rfl,by kernel_rfl⟩
@[go_sem] theorem fn93:isFn Tryz.prog 93:=⟨_,Tryz.func93,rfl,by kernel_rfl⟩
@[go_sem] theorem fn94:isFn Tryz.prog 94:=⟨_,Tryz.func94,rfl,by kernel_rfl⟩
@[go_sem] theorem fn95:isFn Tryz.prog 95:=⟨_,Tryz.func95,rfl,by kernel_rfl⟩
@[go_sem] theorem fn96:isFn Tryz.prog 96:=⟨_,Tryz.func96,rfl,by kernel_rfl⟩
@[go_sem] theorem fn97:isFn Tryz.prog 97:=⟨_,Tryz.func97,rfl,by kernel_rfl⟩
@[go_sem] theorem fn98:isFn Tryz.prog 98:=⟨_,Tryz.func98,rfl,by kernel_rfl⟩
@[go_sem] theorem fn99:isFn Tryz.prog 99:=⟨_,Tryz.func99,rfl,by kernel_rfl⟩
@[go_sem] theorem Zn1:isFn Tryz.prog 100:=⟨_,Tryz.func100,rfl,by kernel_rfl⟩
@[go_sem] theorem Zn2:isFn Tryz.prog 101:=⟨_,Tryz.func101,rfl,by kernel_rfl⟩
@[go_sem] theorem Zn3:isFn Tryz.prog 102:=⟨_,Tryz.func102,rfl,by kernel_rfl⟩
@[go_sem] theorem Zn4:isFn Tryz.prog 103:=⟨_,Tryz.func103,rfl,by kernel_rfl⟩
@[go_sem] theorem Zn5:isFn Tryz.prog 104:=⟨_,Tryz.func104,rfl,by kernel_rfl⟩
@[go_sem] theorem Zn6:isFn Tryz.prog 105:=⟨_,Tryz.func105,rfl,by kernel_rfl⟩
@[go_sem] theorem Zn7:isFn Tryz.prog 107:=⟨_,Tryz.func107,rfl,by kernel_rfl⟩
@[go_sem] theorem Zn8:isFn Tryz.prog 108:=⟨_,Tryz.func108,rfl,by kernel_rfl⟩
@[go_sem] theorem Zn9:isFn Tryz.prog 109:=⟨_,Tryz.func109,rfl,by kernel_rfl⟩
@[go_sem] theorem Zoa:isFn Tryz.prog 123:=⟨_,Tryz.func123,rfl,by kernel_rfl⟩
@[go_sem] theorem Zob:isFn Tryz.prog 124:=⟨_,Tryz.func124,rfl,by kernel_rfl⟩
@[go_sem] theorem Zoc:isFn Tryz.prog 125:=⟨_,Tryz.func125,rfl,by kernel_rfl⟩
@[go_sem] theorem Zod:isFn Tryz.prog 126:=⟨_,Tryz.func126,rfl,by kernel_rfl⟩
@[go_sem] theorem Zoe:isFn Tryz.prog 127:=⟨_,Tryz.func127,rfl,by kernel_rfl⟩
@[go_sem] theorem Zof:isFn Tryz.prog 128:=⟨_,Tryz.func128,rfl,by kernel_rfl⟩
@[go_sem] theorem Zog:isFn Tryz.prog 129:=⟨_,Tryz.func129,rfl,by kernel_rfl⟩
@[go_sem] theorem Zoh:isFn Tryz.prog 130:=⟨_,Tryz.func130,rfl,by kernel_rfl⟩
@[go_sem] theorem Zoi:isFn Tryz.prog 131:=⟨_,Tryz.func131,rfl,by kernel_rfl⟩
@[go_sem] theorem Zoj:isFn Tryz.prog 132:=⟨_,Tryz.func132,rfl,by kernel_rfl⟩
@[go_sem] theorem Zok:isFn Tryz.prog 133:=⟨_,Tryz.func133,rfl,by kernel_rfl⟩
@[go_sem] theorem Zol:isFn Tryz.prog 134:=⟨_,Tryz.func134,rfl,by kernel_rfl⟩
@[go_sem] theorem Zom:isFn Tryz.prog 135:=⟨_,Tryz.func135,rfl,by kernel_rfl⟩
@[go_sem] theorem Zon:isFn Tryz.prog 136:=⟨_,Tryz.func136,rfl,by kernel_rfl⟩
@[go_sem] theorem Zoo:isFn Tryz.prog 138:=⟨_,Tryz.func138,rfl,by kernel_rfl⟩
@[go_sem] theorem Zop:isFn Tryz.prog 139:=⟨_,Tryz.func139,rfl,by kernel_rfl⟩
@[go_sem] theorem Zoq:isFn Tryz.prog 142:=⟨_,Tryz.func142,rfl,by kernel_rfl⟩
@[go_sem] theorem Zor:isFn Tryz.prog 143:=⟨_,Tryz.func143,rfl,by kernel_rfl⟩
@[go_sem] theorem Zos:isFn Tryz.prog 144:=⟨_,Tryz.func144,rfl,by kernel_rfl⟩
@[go_sem] theorem Zot:isFn Tryz.prog 155:=⟨_,Tryz.func155,rfl,by kernel_rfl⟩
@[go_sem] theorem Zou:isFn Tryz.prog 156:=⟨_,Tryz.func156,rfl,by kernel_rfl⟩
@[go_sem] theorem Zov:isFn Tryz.prog 157:=⟨_,Tryz.func157,rfl,by kernel_rfl⟩
@[go_sem] theorem Zow:isFn Tryz.prog 158:=⟨_,Tryz.func158,rfl,by kernel_rfl⟩
@[go_sem] theorem Zox:isFn Tryz.prog 159:=⟨_,Tryz.func159,rfl,by kernel_rfl⟩
@[go_sem] theorem Zoy:isFn Tryz.prog 160:=⟨_,Tryz.func160,rfl,by kernel_rfl⟩
@[go_sem] theorem Zoz:isFn Tryz.prog 161:=⟨_,Tryz.func161,rfl,by kernel_rfl⟩
@[go_sem] theorem ZoA:isFn Tryz.prog 162:=⟨_,Tryz.func162,rfl,by kernel_rfl⟩
@[go_sem] theorem ZoB:isFn Tryz.prog 163:=⟨_,Tryz.func163,rfl,by kernel_rfl⟩
@[go_sem] theorem ZoC:isFn Tryz.prog 164:=⟨_,Tryz.func164,rfl,by kernel_rfl⟩
@[go_sem] theorem ZoD:isFn Tryz.prog 165:=⟨_,Tryz.func165,rfl,by kernel_rfl⟩
@[go_sem] theorem ZoE:isFn Tryz.prog 166:=⟨_,Tryz.func166,rfl,by kernel_rfl⟩
@[go_sem] theorem ZoF:isFn Tryz.prog 167:=⟨_,Tryz.func167,rfl,by kernel_rfl⟩
@[go_sem] theorem ZoG:isFn Tryz.prog 168:=⟨_,Tryz.func168,rfl,by kernel_rfl⟩
@[go_sem] theorem ZoH:isFn Tryz.prog 169:=⟨_,Tryz.func169,rfl,by kernel_rfl⟩
@[go_sem] theorem ZoI:isFn Tryz.prog 170:=⟨_,Tryz.func170,rfl,by kernel_rfl⟩
@[go_sem] theorem ZoJ:isFn Tryz.prog 171:=⟨_,Tryz.func171,rfl,by kernel_rfl⟩
@[go_sem] theorem ZoK:isFn Tryz.prog 172:=⟨_,Tryz.func172,rfl,by kernel_rfl⟩
@[go_sem] theorem ZoL:isFn Tryz.prog 173:=⟨_,Tryz.func173,rfl,by kernel_rfl⟩
@[go_sem] theorem ZoM:isFn Tryz.prog 174:=⟨_,Tryz.func174,rfl,by kernel_rfl⟩
@[go_sem] theorem ZoN:isFn Tryz.prog 175:=⟨_,Tryz.func175,rfl,by kernel_rfl⟩
@[go_sem] theorem ZoO:isFn Tryz.prog 190:=⟨_,Tryz.func190,rfl,by kernel_rfl⟩
@[go_sem] theorem ZoP:isFn Tryz.prog 191:=⟨_,Tryz.func191,rfl,by kernel_rfl⟩
@[go_sem] theorem ZoQ:isFn Tryz.prog 192:=⟨_,Tryz.func192,rfl,by kernel_rfl⟩
@[go_sem] theorem ZoR:isFn Tryz.prog 193:=⟨_,Tryz.func193,rfl,by kernel_rfl⟩
@[go_sem] theorem ZoS:isFn Tryz.prog 194:=⟨_,Tryz.func194,rfl,by kernel_rfl⟩
@[go_sem] theorem ZoT:isFn Tryz.prog 195:=⟨_,Tryz.func195,rfl,by kernel_rfl⟩
@[go_sem] theorem ZoU:isFn Tryz.prog 196:=⟨_,Tryz.func196,rfl,by kernel_rfl⟩
@[go_sem] theorem ZoV:isFn Tryz.prog 197:=⟨_,Tryz.func197,rfl,by kernel_rfl⟩
@[go_sem] theorem ZoW:isFn Tryz.prog 198:=⟨_,Tryz.func198,rfl,by kernel_rfl⟩
@[go_sem] theorem ZoX:isFn Tryz.prog 199:=⟨_,Tryz.func199,rfl,by kernel_rfl⟩
@[go_sem] theorem ZoY:isFn Tryz.prog 200:=⟨_,Tryz.func200,rfl,by kernel_rfl⟩
@[go_sem] theorem ZoZ:isFn Tryz.prog 201:=⟨_,Tryz.func201,rfl,by kernel_rfl⟩
@[go_sem] theorem Zo0:isFn Tryz.prog 202:=⟨_,Tryz.func202,rfl,by kernel_rfl⟩
@[go_sem] theorem Zo1:isFn Tryz.prog 203:=⟨_,Tryz.func203,rfl,by kernel_rfl⟩
@[go_sem] theorem Zo2:isFn Tryz.prog 204:=⟨_,Tryz.func204,rfl,by kernel_rfl⟩
@[go_sem] theorem Zo3:isFn Tryz.prog 205:=⟨_,Tryz.func205,rfl,by kernel_rfl⟩
@[go_sem] theorem Zo4:isFn Tryz.prog 206:=⟨_,Tryz.func206,rfl,by kernel_rfl⟩
@[go_sem] theorem Zo5:isFn Tryz.prog 207:=⟨_,Tryz.func207,rfl,by kernel_rfl⟩
@[go_sem] theorem Zo6:isFn Tryz.prog 208:=⟨_,Tryz.func208,rfl,by kernel_rfl⟩
@[go_sem] theorem Zo7:isFn Tryz.prog 209:=⟨_,Tryz.func209,rfl,by kernel_rfl⟩
@[go_sem] theorem Zo8:isFn Tryz.prog 210:=⟨_,Tryz.func210,rfl,by kernel_rfl⟩
@[go_sem] theorem Zo9:isFn Tryz.prog 211:=⟨_,Tryz.func211,rfl,by kernel_rfl⟩
@[go_sem] theorem Zpa:isFn Tryz.prog 212:=⟨_,Tryz.func212,rfl,by kernel_rfl⟩
@[go_sem] theorem Zpb:isFn Tryz.prog 228:=⟨_,Tryz.func228,rfl,by kernel_rfl⟩
@[go_sem] theorem Zpc:isFn Tryz.prog 229:=⟨_,Tryz.func229,rfl,by kernel_rfl⟩
@[go_sem] theorem Zpd:isFn Tryz.prog 230:=⟨_,Tryz.func230,rfl,by kernel_rfl⟩
@[go_sem] theorem Zpe:isFn Tryz.prog 231:=⟨_,Tryz.func231,rfl,by kernel_rfl⟩
@[go_sem] theorem Zpf:isFn Tryz.prog 232:=⟨_,Tryz.func232,rfl,by kernel_rfl⟩
@[go_sem] theorem Zpg:isFn Tryz.prog 233:=⟨_,Tryz.func233,rfl,by kernel_rfl⟩
@[go_sem] theorem Zph:isFn Tryz.prog 234:=⟨_,Tryz.func234,rfl,by kernel_rfl⟩
@[go_sem] theorem Zpi:isFn Tryz.prog 235:=⟨_,Tryz.func235,rfl,by kernel_rfl⟩
@[go_sem] theorem Zpj:isFn Tryz.prog 236:=⟨_,Tryz.func236,rfl,by kernel_rfl⟩
@[go_sem] theorem Zpk:isFn Tryz.prog 237:=⟨_,Tryz.func237,rfl,by kernel_rfl⟩
@[go_sem] theorem Zpl:isFn Tryz.prog 238:=⟨_,Tryz.func238,rfl,by kernel_rfl⟩
@[go_sem] theorem Zpm:isFn Tryz.prog 239:=⟨_,Tryz.func239,rfl,by kernel_rfl⟩
@[go_sem] theorem Zpn:isFn Tryz.prog 240:=⟨_,Tryz.func240,rfl,by kernel_rfl⟩
@[go_sem] theorem Zpo:isFn Tryz.prog 241:=⟨_,Tryz.func241,rfl,by kernel_rfl⟩
@[go_sem] theorem Zpp:isFn Tryz.prog 242:=⟨_,Tryz.func242,rfl,by kernel_rfl⟩
@[go_sem] theorem Zpq:isFn Tryz.prog 243:=⟨_,Tryz.func243,rfl,by kernel_rfl⟩
@[go_sem] theorem Zpr:isFn Tryz.prog 244:=⟨_,Tryz.func244,rfl,by kernel_rfl⟩
@[go_sem] theorem Zps:isFn Tryz.prog 245:=⟨_,Tryz.func245,rfl,by kernel_rfl⟩
@[go_sem] theorem Zpt:isFn Tryz.prog 246:=⟨_,Tryz.func246,rfl,by kernel_rfl⟩
@[go_sem] theorem Zpu:isFn Tryz.prog 247:=⟨_,Tryz.func247,rfl,by kernel_rfl⟩
@[go_sem] theorem Zpv:isFn Tryz.prog 248:=⟨_,Tryz.func248,rfl,by kernel_rfl⟩
@[go_sem] theorem Zpw:isFn Tryz.prog 255:=⟨_,Tryz.func255,rfl,by kernel_rfl⟩
@[go_sem] theorem Zpx:isFn Tryz.prog 256:=⟨_,Tryz.func256,rfl,by kernel_rfl⟩
@[go_sem] theorem Zpy:isFn Tryz.prog 257:=⟨_,Tryz.func257,rfl,by kernel_rfl⟩
@[go_sem] theorem Zpz:isFn Tryz.prog 258:=⟨_,Tryz.func258,rfl,by kernel_rfl⟩
@[go_sem] theorem ZpA:isFn Tryz.prog 259:=⟨_,Tryz.func259,rfl,by kernel_rfl⟩
@[go_sem] theorem ZpB:isFn Tryz.prog 260:=⟨_,Tryz.func260,rfl,by kernel_rfl⟩
@[go_sem] theorem ZpC:isFn Tryz.prog 262:=⟨_,Tryz.func262,rfl,by kernel_rfl⟩
@[go_sem] theorem ZpD:isFn Tryz.prog 263:=⟨_,Tryz.func263,rfl,by kernel_rfl⟩
@[go_sem] theorem ZpE:isFn Tryz.prog 264:=⟨_,Tryz.func264,rfl,by kernel_rfl⟩
@[go_sem] theorem ZpF:isFn Tryz.prog 265:=⟨_,Tryz.func265,rfl,by kernel_rfl⟩
@[go_sem] theorem ZpG:isFn Tryz.prog 266:=⟨_,Tryz.func266,rfl,by kernel_rfl⟩
@[go_sem] theorem ZpH:isFn Tryz.prog 267:=⟨_,Tryz.func267,rfl,by kernel_rfl⟩
instance:Zr cInt:=⟨fun x q h=>by simp only [cInt,List.mem_singleton] at h; subst h; rfl⟩
instance:ZbZ cInt:=⟨fun x q h=>by simp only [cInt,List.mem_singleton] at h; subst h; rfl⟩
instance:Zr cStr:=⟨fun x q h=>by simp only [cStr,List.mem_singleton] at h; subst h; rfl⟩
instance:ZbZ cStr:=⟨fun x q h=>by simp only [cStr,List.mem_singleton] at h; subst h; rfl⟩
instance:Zr ZfL:=⟨fun x q h=>by simp only [ZfL,List.mem_singleton] at h; subst h; rfl⟩
instance:ZbZ ZfL:=⟨fun x q h=>by simp only [ZfL,List.mem_singleton] at h; subst h; rfl⟩
structure YB8 where
 v:Int
deriving DecidableEq
def cB8 (x:YB8):List PV:=[v8 x.v]
instance:ZO YB8:=⟨cB8⟩
instance:Zr cB8:=⟨fun x q h=>by simp only [cB8,List.mem_singleton] at h; subst h; rfl⟩
instance:ZbZ cB8:=⟨fun x q h=>by simp only [cB8,List.mem_singleton] at h; subst h; rfl⟩
structure ZkC where
 b:List YB8
 i:Int
 h:Int
deriving DecidableEq
def ZeX (x:ZkC):List PV:=[.sl (x.b.map cB8),vi x.i,vi x.h]
instance:ZO ZkC:=⟨ZeX⟩
instance:Zr ZeX:=⟨fun x q h=>by simp only [ZeX,List.mem_cons,List.not_mem_nil,or_false] at h; (repeat' (first | (rcases h with rfl | h; rfl) | (subst h; rfl)))⟩
instance:ZO Zn:=⟨ZaT⟩
instance:Zr ZaT:=⟨fun x q h=>by simp only [ZaT,List.mem_cons,List.not_mem_nil,or_false] at h; (repeat' (first | (rcases h with rfl | h; rfl) | (subst h; rfl)))⟩
instance:ZbZ ZaT:=⟨fun x q h=>by simp only [ZaT,List.mem_cons,List.not_mem_nil,or_false] at h; (repeat' (first | (rcases h with rfl | h; rfl) | (subst h; rfl)))⟩
instance:ZO Zm:=⟨Zat⟩
instance:Zr Zat:=⟨fun x q h=>by simp only [Zat,List.mem_cons,List.not_mem_nil,or_false] at h; (repeat' (first | (rcases h with rfl | h; rfl) | (subst h; rfl)))⟩
instance:ZO ZkT:=⟨ZeQ⟩
instance:Zr ZeQ:=⟨fun x q h=>by simp only [ZeQ,List.mem_cons,List.not_mem_nil,or_false] at h; (repeat' (first | (rcases h with rfl | h; rfl) | (subst h; rfl)))⟩
instance:ZbZ ZeQ:=⟨fun x q h=>by simp only [ZeQ,List.mem_cons,List.not_mem_nil,or_false] at h; (repeat' (first | (rcases h with rfl | h; rfl) | (subst h; rfl)))⟩
instance:ZO ZkS:=⟨ZeO⟩
instance:Zr ZeO:=⟨fun x q h=>by simp only [ZeO,List.mem_cons,List.not_mem_nil,or_false] at h; (repeat' (first | (rcases h with rfl | h; rfl) | (subst h; rfl)))⟩
instance:ZbZ ZeO:=⟨fun x q h=>by simp only [ZeO,List.mem_cons,List.not_mem_nil,or_false] at h; (repeat' (first | (rcases h with rfl | h; rfl) | (subst h; rfl)))⟩
instance:ZO YLeg:=⟨cLeg⟩
instance:Zr cLeg:=⟨fun x q h=>by simp only [cLeg,List.mem_cons,List.not_mem_nil,or_false] at h; (repeat' (first | (rcases h with rfl | h; rfl) | (subst h; rfl)))⟩
instance:ZbZ cLeg:=⟨fun x q h=>by simp only [cLeg,List.mem_cons,List.not_mem_nil,or_false] at h; (repeat' (first | (rcases h with rfl | h; rfl) | (subst h; rfl)))⟩
instance:ZO Zec:=⟨Zcc⟩
instance:Zr Zcc:=⟨fun x q h=>by simp only [Zcc,List.mem_cons,List.not_mem_nil,or_false] at h; (repeat' (first | (rcases h with rfl | h; rfl) | (subst h; rfl)))⟩
instance:ZO ZaY:=⟨Zb0⟩
instance:Zr Zb0:=⟨fun x q h=>by simp only [Zb0,List.mem_cons,List.not_mem_nil,or_false] at h; (repeat' (first | (rcases h with rfl | h; rfl) | (subst h; rfl)))⟩
instance:ZbZ Zb0:=⟨fun x q h=>by simp only [Zb0,List.mem_cons,List.not_mem_nil,or_false] at h; (repeat' (first | (rcases h with rfl | h; rfl) | (subst h; rfl)))⟩
instance:ZO Zbk:=⟨Zbm⟩
instance:Zr Zbm:=⟨fun x q h=>by simp only [Zbm,List.mem_cons,List.not_mem_nil,or_false] at h; (repeat' (first | (rcases h with rfl | h; rfl) | (subst h; rfl)))⟩
instance:ZbZ Zbm:=⟨fun x q h=>by simp only [Zbm,List.mem_cons,List.not_mem_nil,or_false] at h; (repeat' (first | (rcases h with rfl | h; rfl) | (subst h; rfl)))⟩
instance:ZO Zed:=⟨Zee⟩
instance:Zr Zee:=⟨fun x q h=>by simp only [Zee,List.mem_cons,List.not_mem_nil,or_false] at h; (repeat' (first | (rcases h with rfl | h; rfl) | (subst h; rfl)))⟩
instance:ZbZ Zee:=⟨fun x q h=>by simp only [Zee,List.mem_cons,List.not_mem_nil,or_false] at h; (repeat' (first | (rcases h with rfl | h; rfl) | (subst h; rfl)))⟩
instance:ZO ZhP:=⟨Zc9⟩
instance:Zr Zc9:=⟨fun x q h=>by simp only [Zc9,List.mem_cons,List.not_mem_nil,or_false] at h; (repeat' (first | (rcases h with rfl | h; rfl) | (subst h; rfl)))⟩
instance:ZO ZhQ:=⟨ZeP⟩
instance:Zr ZeP:=⟨fun x q h=>by simp only [ZeP,List.mem_cons,List.not_mem_nil,or_false] at h; (repeat' (first | (rcases h with rfl | h; rfl) | (subst h; rfl)))⟩
instance:ZO ZkR:=⟨ZeN⟩
instance:Zr ZeN:=⟨fun x q h=>by simp only [ZeN,List.mem_cons,List.not_mem_nil,or_false] at h; (repeat' (first | (rcases h with rfl | h; rfl) | (subst h; rfl)))⟩
instance:ZbZ ZeN:=⟨fun x q h=>by simp only [ZeN,List.mem_cons,List.not_mem_nil,or_false] at h; (repeat' (first | (rcases h with rfl | h; rfl) | (subst h; rfl)))⟩
instance:ZO YAct:=⟨cAct⟩
instance:Zr cAct:=⟨fun x q h=>by simp only [cAct,List.mem_cons,List.not_mem_nil,or_false] at h; (repeat' (first | (rcases h with rfl | h; rfl) | (subst h; rfl)))⟩
instance:ZO ZhO:=⟨Zc8⟩
instance:Zr Zc8:=⟨fun x q h=>by simp only [Zc8,List.mem_cons,List.not_mem_nil,or_false] at h; (repeat' (first | (rcases h with rfl | h; rfl) | (subst h; rfl)))⟩
instance:ZO ZhN:=⟨ZdD⟩
instance:Zr ZdD:=⟨fun x q h=>by simp only [ZdD,List.mem_cons,List.not_mem_nil,or_false] at h; (repeat' (first | (rcases h with rfl | h; rfl) | (subst h; rfl)))⟩
instance:ZbZ ZdD:=⟨fun x q h=>by simp only [ZdD,List.mem_cons,List.not_mem_nil,or_false] at h; (repeat' (first | (rcases h with rfl | h; rfl) | (subst h; rfl)))⟩
instance:ZO ZhL:=⟨ZdW⟩
instance:Zr ZdW:=⟨fun x q h=>by simp only [ZdW,List.mem_cons,List.not_mem_nil,or_false] at h; (repeat' (first | (rcases h with rfl | h; rfl) | (subst h; rfl)))⟩
instance:ZO ZhM:=⟨ZdX⟩
instance:Zr ZdX:=⟨fun x q h=>by simp only [ZdX,List.mem_cons,List.not_mem_nil,or_false] at h; (repeat' (first | (rcases h with rfl | h; rfl) | (subst h; rfl)))⟩
instance:ZO ZhK:=⟨Zc7⟩
instance:Zr Zc7:=⟨fun x q h=>by simp only [Zc7,List.mem_cons,List.not_mem_nil,or_false] at h; (repeat' (first | (rcases h with rfl | h; rfl) | (subst h; rfl)))⟩
instance:ZO ZkB:=⟨Zda⟩
instance:Zr Zda:=⟨fun x q h=>by simp only [Zda,List.mem_cons,List.not_mem_nil,or_false] at h; (repeat' (first | (rcases h with rfl | h; rfl) | (subst h; rfl)))⟩
instance:ZbZ Zda:=⟨fun x q h=>by simp only [Zda,List.mem_cons,List.not_mem_nil,or_false] at h; (repeat' (first | (rcases h with rfl | h; rfl) | (subst h; rfl)))⟩
instance:ZO ZhJ:=⟨Zc6⟩
instance:Zr Zc6:=⟨fun x q h=>by simp only [Zc6,List.mem_cons,List.not_mem_nil,or_false] at h; (repeat' (first | (rcases h with rfl | h; rfl) | (subst h; rfl)))⟩
attribute [go_sem] cInt cStr ZfL cB8 ZeX ZaT Zat ZeQ ZeO cLeg Zcc Zb0 Zbm Zee Zc9 ZeP ZeN cAct Zc8 ZdD ZdW ZdX Zc7 Zda Zc6 ZO.c
theorem ZgB {n:Nat} {a b a2 b2:Int}:eqT Tryz.prog (n+3) 28 [vi a,vi b] [vi a2,vi b2]=some (decide ((⟨a,b⟩:ZaY)=(⟨a2,b2⟩:ZaY))):=by
 simp only [eqT,Tryz.underlying3,Tryz.underlying28,ts28,Program.fieldsOf,go_sem]
 simp [tc28,tc3]
 try rfl
@[go_sem] theorem Zne {a b a2 b2:Int} {KR:PV→Prop}:eqK Tryz.prog .eql 28 [vi a,vi b] [vi a2,vi b2] KR=KR (vb (decide ((⟨a,b⟩:ZaY)=(⟨a2,b2⟩:ZaY)))):=by unfold eqK; rw [show (10000:Nat)=9997+3 from rfl,ZgB,Tryz.underlying28]; simp only [te28,true_and]
@[go_sem] theorem Zng {a b a2 b2:Int} {KR:PV→Prop}:eqK Tryz.prog .neq 28 [vi a,vi b] [vi a2,vi b2] KR=KR (vb (!decide ((⟨a,b⟩:ZaY)=(⟨a2,b2⟩:ZaY)))):=by unfold eqK; rw [show (10000:Nat)=9997+3 from rfl,ZgB,Tryz.underlying28]; simp only [te28,true_and]
theorem Zdd {n:Nat} {a b c d a2 b2 c2 d2:Int}:eqT Tryz.prog (n+3) 200 [vi a,vi b,vi c,vi d] [vi a2,vi b2,vi c2,vi d2]=some (decide ((⟨a,⟨b,c⟩,d⟩:Zbk)=(⟨a2,⟨b2,c2⟩,d2⟩:Zbk))):=by
 simp only [eqT,Tryz.underlying3,Tryz.underlying200,ZnL,Tryz.underlying28,ts28,Program.fieldsOf,go_sem]
 simp [ZnI,tc28,tc3]
 try rfl
@[go_sem] theorem Zld {a b c d a2 b2 c2 d2:Int} {KR:PV→Prop}:eqK Tryz.prog .eql 200 [vi a,vi b,vi c,vi d] [vi a2,vi b2,vi c2,vi d2] KR=KR (vb (decide ((⟨a,⟨b,c⟩,d⟩:Zbk)=(⟨a2,⟨b2,c2⟩,d2⟩:Zbk)))):=by unfold eqK; rw [show (10000:Nat)=9997+3 from rfl,Zdd,Tryz.underlying200]; simp only [Zm4,true_and]
@[go_sem] theorem Zlv {a b c d a2 b2 c2 d2:Int} {KR:PV→Prop}:eqK Tryz.prog .neq 200 [vi a,vi b,vi c,vi d] [vi a2,vi b2,vi c2,vi d2] KR=KR (vb (!decide ((⟨a,⟨b,c⟩,d⟩:Zbk)=(⟨a2,⟨b2,c2⟩,d2⟩:Zbk)))):=by unfold eqK; rw [show (10000:Nat)=9997+3 from rfl,Zdd,Tryz.underlying200]; simp only [Zm4,true_and]
def frz (t:List PV) (m:Mem):Option Unit:=some ()
theorem Cuts.trans {n0:Nat} {t t1 t2:List PV} {m m1 m2:Mem} (h:Cuts n0 t m t1 m1) (k:Cuts n0 t1 m1 t2 m2):Cuts n0 t m t2 m2:=by
 induction h with
 | one h=>exact .two h k
 | two h h' ih=>exact .two h (ih k)
theorem ZlE {P:Program} {n0:Nat} {Q:Exit→List PV→Mem→Prop} {t T:List PV} {m M:Mem} {α β:Type} {F:Unit→Option α} {K:α→Option β} {r:β} {i:Nat} {ops:Array Oper} {draw:Bool}
 (H:((frz T M).bind F).bind K=some r) (hc:Cuts n0 t m T M) (hk:(F ()).bind K=some r→pwp P n0 (.region i ops draw) Q T M):pwp P n0 (.region i ops draw) Q t m:=by
 rcases hk H with h | ⟨t1,m1,h1,h2⟩
 ·exact .inr ⟨T,M,hc,h⟩
 ·exact .inr ⟨t1,m1,hc.trans h1,h2⟩
def drwL (wd:Nat) (fl:List Nat):Option Unit:=some ()
theorem Zki {P:Program} {n0:Nat} {Q:Exit→List PV→Mem→Prop} {t:List PV} {m:Mem} {α β:Type} {wd:Nat} {fl:List Nat} {F:Unit→Option α} {K:α→Option β} {r:β} {id:Nat} {ops:List Oper}
 (H:((drwL wd fl).bind F).bind K=some r) (hwd:decide (0<wd)=true) (h1:P.follows .mixedOrders=true) (hk:(F ()).bind K=some r→ZaR P wd m.length fl ops.toArray (endD ops (Q .normal)) 0 ops [] t m):pwp P n0 (.region id ops.toArray true) Q t m:=ZiS hwd h1 (hk H)
theorem Zh3 {m m':Mem} {rs:List (Option Nat)} {α:Type} {f:α→List PV} [Zr f] {xs:List α} {x:α} {cs:List PV} {k k' n:Nat} {T:TypeId} (hm:look m k=some ⟨T,k',(xs.map f).set n cs⟩) (hc:f x=cs) (hd:Zbo (rho rs) m' k):CutC (rho rs) m m' (.ms k) (.sl ((xs.set n x).map f)):=by
 subst hc
 refine Zgv (f:=f) (xs:=xs.set n x) (T:=T) (k':=k') ?_ hd
 rw [hm,List.map_set]
theorem ZjF {m m':Mem} {rs:List (Option Nat)} {α:Type} {f:α→List PV} [Zr f] {xs:List α} {a b:Int} {k k' A B:Nat} {T:TypeId} (hm:look m k=some ⟨T,k',xs.map f⟩) (hA:A=a.toNat) (hB:B=b.toNat) (hd:Zbo (rho rs) m' k):CutC (rho rs) m m' (.ss k A B) (.sl ((subL xs a b).map f)):=by
 subst hA hB
 have:=CutC.fss (ρ:=rho rs) (m:=m) (m':=m') k a.toNat b.toNat ⟨T,k',xs.map f⟩ (ZaD.1 hm) Zc0 hd
 simpa only [Zb6,Zb9,subL] using this
def rgI {α:Type} (xs:List α) (i:Int):Option α:=getI xs i
theorem rgH {α β γ:Type} {xs:List α} {i:Int} {F:α→Option β} {K:β→Option γ} {r:γ} (H:((rgI xs i).bind F).bind K=some r):∃ x,getI xs i=some x∧(F x).bind K=some r:=ZfK H
theorem ZgJ {α:Type} {f:α→List PV} {xs:List α} {x:α} {i:Int} {cs:List PV} (h:getI xs i=some x):((xs.map f).set i.toNat cs)[i.toNat]?=some cs:=by
 rw [List.getElem?_set_self]
 have:=(List.getElem?_eq_some_iff.1 (Zdh h).2).1
 simpa using this
theorem ZjX {P:Program} {m:Mem} {KR:PV→Prop} {α:Type} [ZO α] {xs:List α} {x:α} {T T':TypeId} {l k' n:Nat} {cs:List PV} {i:Int} {k:IntKind} (h:getI xs i=some x) (hm:look m l=some ⟨T',k',(xs.map ZO.c).set n cs⟩) (hp:0<ZaZ P T) (hk:k'=ZaZ P T) (hK:KR (.be l i.toNat 0)):Zk P m T (.ms l) (.v (.int k i)) KR:=by
 obtain ⟨h1,h2,h3⟩:=ZfY h
 obtain ⟨e,hu,he⟩:=Zcf hp
 rw [he] at hk
 simp only [Zk,hu,Zbq,hm,List.length_map,List.length_set]
 exact ⟨h1,h2,hk,hK⟩
attribute [go_sem] List.length_set List.set_set
def frzL {α:Type} (x:α) (t:α→List PV) (m:α→Mem):Option α:=some x
theorem Zkk {P:Program} {n0:Nat} {Q:Exit→List PV→Mem→Prop} {t:List PV} {m:Mem} {ξ α β:Type} {x:ξ} {T:ξ→List PV} {M:ξ→Mem} {F:ξ→Option α} {K:α→Option β} {r:β} {i:Nat} {ops:Array Oper} {draw:Bool}
 (H:((frzL x T M).bind F).bind K=some r) (hc:Cuts n0 t m (T x) (M x)) (hk:∀ z,(F z).bind K=some r→pwp P n0 (.region i ops draw) Q (T z) (M z)):pwp P n0 (.region i ops draw) Q t m:=by
 rcases hk x H with h | ⟨t1,m1,h1,h2⟩
 ·exact .inr ⟨T x,M x,hc,h⟩
 ·exact .inr ⟨t1,m1,hc.trans h1,h2⟩
def rhoM (ρ:List Nat):Option Unit:=some ()
theorem ZkX {R α β:Type} {P:Program} {ρ:List Nat} {A:Option R} [C:CT P A] {F:Unit→Option α} {G:R→Option α} {K:α→Option β} {r:β} {f:FuncId} {ps:List PV} {io:Bool} {wd ν:Nat} {m:Mem} {KA:PV→Mem→Prop}
 (H:((rhoM ρ).bind F).bind K=some r) (hF:F ()=A.bind G) (hf:C.f=f) (hio:io=true) (hps:ps=C.args.map (renA (sig ρ ν))) (hq:∀ q∈C.args,ZbM false q∧lowA C.m0.length q=true) (hn:ρ.Nodup) (hin:Zbj (sig ρ ν) m C.m0.length ρ C.m0)
 (hlen:∀ y,C.m0.length≤(C.mem y).length∧(C.mem y).length-C.m0.length≤wd) (hm:∀ y,∀ mb,some mb∈C.mem y→∀ cs∈mb.es,∀ p∈cs,ZF false p) (hg:∀ y,ZbG false (C.res y))
 (hk:∀ y,A=some y→(G y).bind K=some r→KA (renV (sig ρ ν) (C.res y)) (Z7 (sig ρ ν) ν ((C.mem y).drop ρ.length) (Zba (sig ρ ν) ρ (C.mem y) m))):ZbD P io wd ν f ps m KA:=by
 have H':(F ()).bind K=some r:=H
 rw [hF] at H'
 obtain ⟨y,hy,H2⟩:=ZfK H'
 subst hf
 exact .inr ⟨ρ,C.m0,C.args,C.res y,C.mem y,.inl hio,C.ok hy,(hlen y).1,(hlen y).2,hps,hq,hn,hin,hm y,hg y,hk y hy H2⟩
theorem Zjr {R α β:Type} {P:Program} {ρ:List Nat} {A:Option R} [C:CT P A] {F:Unit→Option α} {G:R→Option α} {K:α→Option β} {r:β} {f:FuncId} {ps:List PV} {wd ν:Nat} {m:Mem} {KA:List Nat→PV→Mem→Prop}
 (H:((rhoM ρ).bind F).bind K=some r) (hF:F ()=A.bind G) (hf:C.f=f) (hps:ps=C.args.map (renA (sig ρ ν))) (hq:∀ q∈C.args,ZbM false q∧lowA C.m0.length q=true) (hn:ρ.Nodup) (hin:Zbj (sig ρ ν) m C.m0.length ρ C.m0)
 (hlen:∀ y,C.m0.length≤(C.mem y).length∧(C.mem y).length-C.m0.length≤wd) (hm:∀ y,∀ mb,some mb∈C.mem y→∀ cs∈mb.es,∀ p∈cs,ZF false p) (hg:∀ y,ZbG false (C.res y))
 (hk:∀ y,A=some y→(G y).bind K=some r→KA ρ (renV (sig ρ ν) (C.res y)) (Z7 (sig ρ ν) ν ((C.mem y).drop ρ.length) (Zba (sig ρ ν) ρ (C.mem y) m))):pIO P wd ν f ps m KA:=by
 have H':(F ()).bind K=some r:=H
 rw [hF] at H'
 obtain ⟨y,hy,H2⟩:=ZfK H'
 subst hf
 exact ⟨ρ,C.m0,C.args,C.res y,C.mem y,C.ok hy,(hlen y).1,(hlen y).2,hps,hq,hn,hin,hm y,hg y,hk y hy H2⟩
def ZkQ:Prop:=True
theorem rhoH {α β:Type} {ρ:List Nat} {F:Unit→Option α} {K:α→Option β} {r:β} (H:((rhoM ρ).bind F).bind K=some r):ZkQ:=trivial
theorem rhoS {P:Program} {f:FuncId} {ps:List PV} {io:Bool} {wd ν:Nat} {m:Mem} {KA:PV→Mem→Prop} (h:ZkQ) (hk:ZbD P io wd ν f ps m KA):ZbD P io wd ν f ps m KA:=hk
theorem ZnD {P:Program} {f:FuncId} {ps:List PV} {wd ν:Nat} {m:Mem} {KA:List Nat→PV→Mem→Prop} (h:ZkQ) (hk:pIO P wd ν f ps m KA):pIO P wd ν f ps m KA:=hk
theorem Zd5 {σ:Nat→Nat} {m:Mem} {n:Nat}:Zbj σ m n [] []:=trivial
theorem Zj3 {n:Nat} {p:PV} (h:isC p=true):lowC n p=true:=by
 cases p with
 | fn f cs=>
  simp only [isC,List.all_eq_true] at h
  simp only [lowC,List.all_eq_true]
  intro c hc
  have:=h c hc
  cases c <;> simp_all [isC1,low1]
 | _=>simp_all [isC,isC1,lowC,low1]
theorem Zd4 {α:Type} {f:α→List PV} [hf:Zr f] {σ:Nat→Nat} {m:Mem} {n l T k:Nat} {xs:List α} {ρ:List Nat} {m0:Mem} (hl:look m l=some ⟨T,k,xs.map f⟩) (h:Zbj σ m n ρ m0):Zbj σ m n (l::ρ) (some ⟨T,k,xs.map f⟩::m0):=by
 refine ⟨?_,fun cs hcs p hp=>?_,h⟩
 ·rw [ZaD.1 hl]
  simp only [Zbh,Zfx]
 ·obtain ⟨x,_,rfl⟩:=List.mem_map.1 hcs
  exact ⟨ZbV (hf.h x p hp),Zj3 (hf.h x p hp)⟩
theorem Zd6 {σ:Nat→Nat} {m:Mem} {n l T k:Nat} {cs cs':List PV} {ρ:List Nat} {m0:Mem} (hl:look m l=some ⟨T,k,[cs']⟩) (hc:cs'=cs.map (renC σ)) (hg:∀ p∈cs,ZF false p∧lowC n p=true) (h:Zbj σ m n ρ m0):Zbj σ m n (l::ρ) (some ⟨T,k,[cs]⟩::m0):=by
 subst hc
 refine ⟨ZaD.1 hl,fun ds hds p hp=>?_,h⟩
 obtain rfl:ds=cs:=by simpa using hds
 exact hg p hp
@[irreducible] def jn {ο α:Type} (i j:Nat) (J:Option (ο ⊕ α)) (T:ο→List PV) (M:ο→Mem):Option (ο ⊕ α):=J
def hdC:Code→Bool
 | .region _ _ _=>true
 | .loop _=>true
 | .seq a _=>hdC a
 | .block _ c=>hdC c
 | _=>false
def idC:Code→Nat
 | .region i _ _=>i
 | .loop c=>idC c
 | .seq a _=>idC a
 | .block _ c=>idC c
 | _=>0
theorem Zeu {P:Program} {n0:Nat}:∀ (c:Code),hdC c=true→∀ {Q:Exit→List PV→Mem→Prop} {t T:List PV} {m M:Mem},Cuts n0 t m T M→pwp P n0 c Q T M→pwp P n0 c Q t m
 | .region i ops draw,_,Q,t,T,m,M,hc,h=>by
  rcases h with h | ⟨t1,m1,h1,h2⟩
  ·exact .inr ⟨T,M,hc,h⟩
  ·exact .inr ⟨t1,m1,hc.trans h1,h2⟩
 | .loop c,_,Q,t,T,m,M,hc,h=>by
  obtain ⟨I,n,t0,m0,h1,h2⟩:=h
  exact ⟨I,n,t0,m0,hc.trans h1,h2⟩
 | .seq a b,hd,Q,t,T,m,M,hc,h=>Zeu a hd hc h
 | .block i c,hd,Q,t,T,m,M,hc,h=>Zeu c hd hc h
theorem ZkN {P:Program} {n0:Nat} {Q:Exit→List PV→Mem→Prop} {t:List PV} {m:Mem} {a b:Code} {ο α β γ:Type} {J:Option (ο ⊕ α)} {T:ο→List PV} {M:ο→Mem} {G:ο→Option β} {F:α→Option β} {K:β→Option γ} {r:γ}
 {i j:Nat} (H:((jn i j J T M).bind (Zac G F)).bind K=some r) (hd:hdC b=true) (hi:(idC a == i && idC b == j)=true)
 (h1:∀ K':List PV→Mem→Prop,(∀ o t' m',(G o).bind K=some r→Cuts n0 t' m' (T o) (M o)→K' t' m')→J.bind (Zac (fun o=>(G o).bind K) (fun v=>(F v).bind K))=some r→pwp P n0 a (ZbT K' Q) t m)
 (h2:∀ o,(G o).bind K=some r→pwp P n0 b Q (T o) (M o)):pwp P n0 (.seq a b) Q t m:=by
 unfold jn at H
 refine h1 (fun t m=>pwp P n0 b Q t m) (fun o t' m' h hc=>Zeu b hd hc (h2 o h)) ?_
 cases J with
 | none=>cases H
 | some x=>cases x <;> exact H
theorem jnX {ο α β:Type} {n0:Nat} {s:ο} {F:ο→Option β} {K:α→Option β} {r:β} {Kp:List PV→Mem→Prop} {T:ο→List PV} {M:ο→Mem} {t:List PV} {m:Mem} (H:(some (Sum.inl s)).bind (Zac F K)=some r) (hL:∀ o t' m',F o=some r→Cuts n0 t' m' (T o) (M o)→Kp t' m') (hc:Cuts n0 t m (T s) (M s)):Kp t m:=hL s t m H hc
def IsJn:Prop:=True
theorem jnH {ο α β γ:Type} {i j:Nat} {J:Option (ο ⊕ α)} {T:ο→List PV} {M:ο→Mem} {G:(ο ⊕ α)→Option β} {K:β→Option γ} {r:γ} (H:((jn i j J T M).bind G).bind K=some r):IsJn:=trivial
theorem jnS {P:Program} {n0:Nat} {Q:Exit→List PV→Mem→Prop} {t:List PV} {m:Mem} {a b:Code} (h:IsJn) (hk:pwp P n0 (.seq a b) Q t m):pwp P n0 (.seq a b) Q t m:=hk
theorem Zgh {K K2:List PV→Mem→Prop} {Q:Exit→List PV→Mem→Prop}:ZbT K (ZbT K2 Q)=ZbT K Q:=by
 funext e t m
 cases e <;> rfl
theorem ZiP {P:Program} {n0:Nat} {Q:Exit→List PV→Mem→Prop} {t:List PV} {m:Mem} {a b c:Code} (h:pwp P n0 (.seq (.seq a b) c) Q t m):pwp P n0 (.seq a (.seq b c)) Q t m:=by
 have e:pwp P n0 (.seq (.seq a b) c) Q t m=pwp P n0 a (ZbT (fun t m=>pwp P n0 b (ZbT (fun t m=>pwp P n0 c Q t m) Q) t m) (ZbT (fun t m=>pwp P n0 c Q t m) Q)) t m:=by simp only [pwp]
 rw [e,Zgh] at h
 simp only [pwp]
 exact h
theorem ZlF {P:Program} {n0:Nat} {Q:Exit→List PV→Mem→Prop} {t:List PV} {m:Mem} {a b c:Code} {ο α β γ:Type} {J:Option (ο ⊕ α)} {T:ο→List PV} {M:ο→Mem} {G:ο→Option β} {F:α→Option β} {K:β→Option γ} {r:γ}
 {i j:Nat} (H:((jn i j J T M).bind (Zac G F)).bind K=some r) (hd:hdC c=true) (hi:(idC a == i && idC c == j)=true)
 (h1:∀ K':List PV→Mem→Prop,(∀ o t' m',(G o).bind K=some r→Cuts n0 t' m' (T o) (M o)→K' t' m')→J.bind (Zac (fun o=>(G o).bind K) (fun v=>(F v).bind K))=some r→pwp P n0 (.seq a b) (ZbT K' Q) t m)
 (h2:∀ o,(G o).bind K=some r→pwp P n0 c Q (T o) (M o)):pwp P n0 (.seq a (.seq b c)) Q t m:=ZiP (ZkN H hd hi h1 h2)
inductive SubC:PV→PV→Prop
 | r (p:PV):SubC p p
 | nil (c:Nat):SubC (.v (.slice none 0 c)) (.sl [])
 | un (p:PV):SubC p .un
inductive SubL:List PV→List PV→Prop
 | n:SubL [] []
 | c {p q:PV} {ps qs:List PV} (h:SubC p q) (k:SubL ps qs):SubL (p::ps) (q::qs)
inductive SubV:PV→PV→Prop
 | c {p q:PV} (h:SubC p q):SubV p q
 | ag {cs ds:List PV} (h:SubL cs ds):SubV (.ag cs) (.ag ds)
inductive SubA:List PV→List PV→Prop
 | n:SubA [] []
 | c {p q:PV} {ps qs:List PV} (h:SubV p q) (k:SubA ps qs):SubA (p::ps) (q::qs)
theorem SubC.rep {w:World} {E:Env} {p q:PV} {x:Value} (h:SubC p q) (hr:Rep w E p x):Rep w E q x:=by
 cases h with
 | r=>exact hr
 | nil c=>
  cases hr with
  | c h=>cases h with
   | v _ _=>exact .c (.nil none c)
 | un=>exact .c (.un x)
theorem SubL.len {cs ds:List PV} (h:SubL cs ds):cs.length=ds.length:=by
 induction h with
 | n=>rfl
 | c _ _ ih=>simp [ih]
theorem SubL.get {cs ds:List PV} (h:SubL cs ds):∀ (j:Nat) (q:PV),ds[j]?=some q→∃ p,cs[j]?=some p∧SubC p q:=by
 induction h with
 | n=>intro j q hq; simp at hq
 | c h k ih=>
  intro j q hq
  cases j with
  | zero=>simp at hq; subst hq; exact ⟨_,by simp,h⟩
  | succ j=>simpa using ih j q (by simpa using hq)
theorem SubV.rep {w:World} {E:Env} {p q:PV} {x:Value} (h:SubV p q) (hr:Rep w E p x):Rep w E q x:=by
 cases h with
 | c h=>exact h.rep hr
 | ag h=>
  obtain ⟨vs,rfl,hl,h1,hc⟩:=Rep.ag_inv hr
  exact .ag _ vs (by rw [hl,h.len]) h1 fun j p y hp hy=>by
   obtain ⟨p',hp',hs⟩:=h.get j p hp
   exact hs.rep (hc j p' y hp' hy)
theorem SubA.len {cs ds:List PV} (h:SubA cs ds):cs.length=ds.length:=by
 induction h with
 | n=>rfl
 | c _ _ ih=>simp [ih]
theorem SubA.get {cs ds:List PV} (h:SubA cs ds):∀ (j:Nat) (q:PV),ds[j]?=some q→∃ p,cs[j]?=some p∧SubV p q:=by
 induction h with
 | n=>intro j q hq; simp at hq
 | c h k ih=>
  intro j q hq
  cases j with
  | zero=>simp at hq; subst hq; exact ⟨_,by simp,h⟩
  | succ j=>simpa using ih j q (by simpa using hq)
theorem Za8.weak {P:Program} {f:FuncId} {ps qs:List PV} {m0:Mem} {r:PV} {m1:Mem} (h:Za8 P f qs m0 r m1) (hs:SubA ps qs):Za8 P f ps m0 r m1:=by
 intro S β w vs ω hok hl ha
 refine h S β w vs ω hok (by rw [hl,hs.len]) fun i q hq=>?_
 obtain ⟨p,hp,hv⟩:=hs.get i q hq
 obtain ⟨x,hx,hr⟩:=ha i p hp
 exact ⟨x,hx,hv.rep hr⟩
def isCM:PV→Bool
 | .ms _=>true
 | p=>isC p
def ZmG:PV→Bool
 | .ag cs=>cs.all isCM
 | .tu _=>false
 | p=>isCM p
theorem ZgG {p:PV} (h:isCM p=true):ZF false p:=by
 cases p with
 | ms l=>simp [ZF]
 | _=>exact ZbV h
theorem ZkH {cs:List PV} (h:cs.all isCM=true):ZbG false (.ag cs):=fun c hc=>ZgG (List.all_eq_true.1 h c hc)
theorem ZkI {ps:List PV} (h:ps.all ZmG=true):ZbG false (.tu ps):=by
 intro c hc
 have:=List.all_eq_true.1 h c hc
 cases c with
 | ag cs=>exact fun d hd=>ZgG (List.all_eq_true.1 this d hd)
 | tu vs=>simp [ZmG] at this
 | fn f cs=>exact ZbV (c:=.fn f cs) this
 | _=>simp [ZbM,ZF]
theorem ZfO {m m':Mem} {ρ:Nat→Option Nat} {c:Nat}:CutC ρ m m' (.v (.slice none 0 c)) (.sl []):=.nilsl c
theorem Zgd {m m':Mem} {rs rr:List (Option Nat)} {T k:Nat} {mm:Mem} (hk:decide (0<k)=true) (h:ZU rs m m' rr mm):ZU rs m m' (none::rr) (some ⟨T,k,[]⟩::mm):=⟨⟨rfl,of_decide_eq_true hk⟩,h⟩
theorem ZmI {i:Nat} {rs:List (Option Nat)} {m:Mem}:lowB 0 i rs m=true:=rfl
theorem ZmJ {n i:Nat} {rs:List (Option Nat)} {mb:MB} {m:Mem} (h:lowB n (i+1) rs m=true):lowB (n+1) i (some i::rs) (some mb::m)=true:=by simp [lowB,h]
theorem ZmK {n i:Nat} {rs:List (Option Nat)} {m:Mem} (h:lowB n (i+1) rs m=true):lowB (n+1) i (none::rs) (none::m)=true:=by simpa [lowB] using h
theorem Zmh {n0:Nat} {t t':List PV} {m:Mem} (hl:lowB n0 0 [] []=true) (hT:cutT (rho []) m [] t t') (hM:ZU [] m [] [] []) (hi:injB []=true):Cuts n0 t m t' []:=ZbB hT hM hi hl
theorem Zmi {n0:Nat} {t t':List PV} {m:Mem} {a:Option MB} (r0:Option Nat) (hl:lowB n0 0 [r0] [a]=true) (hT:cutT (rho [r0]) m [a] t t') (hM:ZU [r0] m [a] [r0] [a]) (hi:injB [r0]=true):Cuts n0 t m t' [a]:=ZbB hT hM hi hl
theorem Zmj {n0:Nat} {t t':List PV} {m:Mem} {a b:Option MB} (r0 r1:Option Nat) (hl:lowB n0 0 [r0,r1] [a,b]=true) (hT:cutT (rho [r0,r1]) m [a,b] t t') (hM:ZU [r0,r1] m [a,b] [r0,r1] [a,b]) (hi:injB [r0,r1]=true):Cuts n0 t m t' [a,b]:=ZbB hT hM hi hl
theorem Zmk {n0:Nat} {t t':List PV} {m:Mem} {a b c:Option MB} (r0 r1 r2:Option Nat) (hl:lowB n0 0 [r0,r1,r2] [a,b,c]=true) (hT:cutT (rho [r0,r1,r2]) m [a,b,c] t t') (hM:ZU [r0,r1,r2] m [a,b,c] [r0,r1,r2] [a,b,c]) (hi:injB [r0,r1,r2]=true):Cuts n0 t m t' [a,b,c]:=ZbB hT hM hi hl
theorem Zml {n0:Nat} {t t':List PV} {m:Mem} {a b c d:Option MB} (r0 r1 r2 r3:Option Nat) (hl:lowB n0 0 [r0,r1,r2,r3] [a,b,c,d]=true) (hT:cutT (rho [r0,r1,r2,r3]) m [a,b,c,d] t t') (hM:ZU [r0,r1,r2,r3] m [a,b,c,d] [r0,r1,r2,r3] [a,b,c,d]) (hi:injB [r0,r1,r2,r3]=true):Cuts n0 t m t' [a,b,c,d]:=ZbB hT hM hi hl
theorem Zmm {n0:Nat} {t t':List PV} {m:Mem} {a b c d e:Option MB} (r0 r1 r2 r3 r4:Option Nat) (hl:lowB n0 0 [r0,r1,r2,r3,r4] [a,b,c,d,e]=true) (hT:cutT (rho [r0,r1,r2,r3,r4]) m [a,b,c,d,e] t t') (hM:ZU [r0,r1,r2,r3,r4] m [a,b,c,d,e] [r0,r1,r2,r3,r4] [a,b,c,d,e]) (hi:injB [r0,r1,r2,r3,r4]=true):Cuts n0 t m t' [a,b,c,d,e]:=ZbB hT hM hi hl
theorem Zmn {n0:Nat} {t t':List PV} {m:Mem} {a b c d e f:Option MB} (r0 r1 r2 r3 r4 r5:Option Nat) (hl:lowB n0 0 [r0,r1,r2,r3,r4,r5] [a,b,c,d,e,f]=true) (hT:cutT (rho [r0,r1,r2,r3,r4,r5]) m [a,b,c,d,e,f] t t') (hM:ZU [r0,r1,r2,r3,r4,r5] m [a,b,c,d,e,f] [r0,r1,r2,r3,r4,r5] [a,b,c,d,e,f]) (hi:injB [r0,r1,r2,r3,r4,r5]=true):Cuts n0 t m t' [a,b,c,d,e,f]:=ZbB hT hM hi hl
theorem Zmo {n0:Nat} {t t':List PV} {m:Mem} {a b c d e f g:Option MB} (r0 r1 r2 r3 r4 r5 r6:Option Nat) (hl:lowB n0 0 [r0,r1,r2,r3,r4,r5,r6] [a,b,c,d,e,f,g]=true) (hT:cutT (rho [r0,r1,r2,r3,r4,r5,r6]) m [a,b,c,d,e,f,g] t t') (hM:ZU [r0,r1,r2,r3,r4,r5,r6] m [a,b,c,d,e,f,g] [r0,r1,r2,r3,r4,r5,r6] [a,b,c,d,e,f,g]) (hi:injB [r0,r1,r2,r3,r4,r5,r6]=true):Cuts n0 t m t' [a,b,c,d,e,f,g]:=ZbB hT hM hi hl
theorem Zmp {n0:Nat} {t t':List PV} {m:Mem} {a b c d e f g h:Option MB} (r0 r1 r2 r3 r4 r5 r6 r7:Option Nat) (hl:lowB n0 0 [r0,r1,r2,r3,r4,r5,r6,r7] [a,b,c,d,e,f,g,h]=true) (hT:cutT (rho [r0,r1,r2,r3,r4,r5,r6,r7]) m [a,b,c,d,e,f,g,h] t t') (hM:ZU [r0,r1,r2,r3,r4,r5,r6,r7] m [a,b,c,d,e,f,g,h] [r0,r1,r2,r3,r4,r5,r6,r7] [a,b,c,d,e,f,g,h]) (hi:injB [r0,r1,r2,r3,r4,r5,r6,r7]=true):Cuts n0 t m t' [a,b,c,d,e,f,g,h]:=ZbB hT hM hi hl
theorem Zmq {n0:Nat} {t t':List PV} {m:Mem} {a b c d e f g h i:Option MB} (r0 r1 r2 r3 r4 r5 r6 r7 r8:Option Nat) (hl:lowB n0 0 [r0,r1,r2,r3,r4,r5,r6,r7,r8] [a,b,c,d,e,f,g,h,i]=true) (hT:cutT (rho [r0,r1,r2,r3,r4,r5,r6,r7,r8]) m [a,b,c,d,e,f,g,h,i] t t') (hM:ZU [r0,r1,r2,r3,r4,r5,r6,r7,r8] m [a,b,c,d,e,f,g,h,i] [r0,r1,r2,r3,r4,r5,r6,r7,r8] [a,b,c,d,e,f,g,h,i]) (hi:injB [r0,r1,r2,r3,r4,r5,r6,r7,r8]=true):Cuts n0 t m t' [a,b,c,d,e,f,g,h,i]:=ZbB hT hM hi hl
theorem Zk4 {n0:Nat} {t t':List PV} {m:Mem} {a b c d e f g h i j:Option MB} (r0 r1 r2 r3 r4 r5 r6 r7 r8 r9:Option Nat) (hl:lowB n0 0 [r0,r1,r2,r3,r4,r5,r6,r7,r8,r9] [a,b,c,d,e,f,g,h,i,j]=true) (hT:cutT (rho [r0,r1,r2,r3,r4,r5,r6,r7,r8,r9]) m [a,b,c,d,e,f,g,h,i,j] t t') (hM:ZU [r0,r1,r2,r3,r4,r5,r6,r7,r8,r9] m [a,b,c,d,e,f,g,h,i,j] [r0,r1,r2,r3,r4,r5,r6,r7,r8,r9] [a,b,c,d,e,f,g,h,i,j]) (hi:injB [r0,r1,r2,r3,r4,r5,r6,r7,r8,r9]=true):Cuts n0 t m t' [a,b,c,d,e,f,g,h,i,j]:=ZbB hT hM hi hl
theorem Zk5 {n0:Nat} {t t':List PV} {m:Mem} {a b c d e f g h i j k:Option MB} (r0 r1 r2 r3 r4 r5 r6 r7 r8 r9 r10:Option Nat) (hl:lowB n0 0 [r0,r1,r2,r3,r4,r5,r6,r7,r8,r9,r10] [a,b,c,d,e,f,g,h,i,j,k]=true) (hT:cutT (rho [r0,r1,r2,r3,r4,r5,r6,r7,r8,r9,r10]) m [a,b,c,d,e,f,g,h,i,j,k] t t') (hM:ZU [r0,r1,r2,r3,r4,r5,r6,r7,r8,r9,r10] m [a,b,c,d,e,f,g,h,i,j,k] [r0,r1,r2,r3,r4,r5,r6,r7,r8,r9,r10] [a,b,c,d,e,f,g,h,i,j,k]) (hi:injB [r0,r1,r2,r3,r4,r5,r6,r7,r8,r9,r10]=true):Cuts n0 t m t' [a,b,c,d,e,f,g,h,i,j,k]:=ZbB hT hM hi hl
theorem Zk6 {n0:Nat} {t t':List PV} {m:Mem} {a b c d e f g h i j k l:Option MB} (r0 r1 r2 r3 r4 r5 r6 r7 r8 r9 r10 r11:Option Nat) (hl:lowB n0 0 [r0,r1,r2,r3,r4,r5,r6,r7,r8,r9,r10,r11] [a,b,c,d,e,f,g,h,i,j,k,l]=true) (hT:cutT (rho [r0,r1,r2,r3,r4,r5,r6,r7,r8,r9,r10,r11]) m [a,b,c,d,e,f,g,h,i,j,k,l] t t') (hM:ZU [r0,r1,r2,r3,r4,r5,r6,r7,r8,r9,r10,r11] m [a,b,c,d,e,f,g,h,i,j,k,l] [r0,r1,r2,r3,r4,r5,r6,r7,r8,r9,r10,r11] [a,b,c,d,e,f,g,h,i,j,k,l]) (hi:injB [r0,r1,r2,r3,r4,r5,r6,r7,r8,r9,r10,r11]=true):Cuts n0 t m t' [a,b,c,d,e,f,g,h,i,j,k,l]:=ZbB hT hM hi hl
theorem ZaS {b:Bool} {T k:Nat} {es:List (List PV)} (h:∀ cs∈es,∀ p∈cs,ZF b p):∀ mb,some mb∈([some ⟨T,k,es⟩]:Mem)→∀ cs∈mb.es,∀ p∈cs,ZF b p:=by
 intro mb hm
 simp only [List.mem_singleton,Option.some.injEq] at hm
 subst hm
 exact h
theorem ZfZ {m:Mem} {b:Bool} (h2:∀ mb,some mb∈m→∀ cs∈mb.es,∀ p∈cs,ZF b p):∀ mb,some mb∈((none:Option MB)::m)→∀ cs∈mb.es,∀ p∈cs,ZF b p:=by
 intro mb h
 rcases List.mem_cons.1 h with h | h
 ·cases h
 ·exact h2 mb h
theorem hm_e {T k:Nat} {b:Bool}:∀ mb,some mb∈([some ⟨T,k,[]⟩]:Mem)→∀ cs∈mb.es,∀ p∈cs,ZF b p:=ZaS (by simp)
theorem Znh {α β:Type} {K:α→Option β} {r:β} (h:(none:Option α).bind K=some r):False:=by cases h
theorem Ze5 {n:Nat} {a b a2 b2:Int} {c c2:ByteArray}:eqT Tryz.prog (n+3) 23 [vi a,vi b,vs c] [vi a2,vi b2,vs c2]=some (decide ((⟨a,b,c⟩:Zn)=(⟨a2,b2,c2⟩:Zn))):=by
 simp only [eqT,Tryz.underlying3,Tryz.underlying23,ts23,Tryz.underlying9,Program.fieldsOf,go_sem]
 simp [tc23,tc3,tc9]
 rw [baB]; rfl
@[go_sem] theorem Zmv {a b a2 b2:Int} {c c2:ByteArray} {KR:PV→Prop}:eqK Tryz.prog .eql 23 [vi a,vi b,vs c] [vi a2,vi b2,vs c2] KR=KR (vb (decide ((⟨a,b,c⟩:Zn)=(⟨a2,b2,c2⟩:Zn)))):=by unfold eqK; rw [show (10000:Nat)=9997+3 from rfl,Ze5,Tryz.underlying23]; simp only [te23,true_and]
@[go_sem] theorem ZmQ {a b a2 b2:Int} {c c2:ByteArray} {KR:PV→Prop}:eqK Tryz.prog .neq 23 [vi a,vi b,vs c] [vi a2,vi b2,vs c2] KR=KR (vb (!decide ((⟨a,b,c⟩:Zn)=(⟨a2,b2,c2⟩:Zn)))):=by unfold eqK; rw [show (10000:Nat)=9997+3 from rfl,Ze5,Tryz.underlying23]; simp only [te23,true_and]
theorem Zib {n:Nat} {a a2:ByteArray} {b b2:ByteArray} {c c2:Int} {d d2:Int} {e e2:Int} {f f2:Int}:eqT Tryz.prog (n+3) 158 [vs a,vs b,vi c,vi d,vi e,vi f] [vs a2,vs b2,vi c2,vi d2,vi e2,vi f2]=some (decide ((⟨a,b,c,d,e,f⟩:YLeg)=(⟨a2,b2,c2,d2,e2,f2⟩:YLeg))):=by
 simp only [eqT,Tryz.underlying3,Tryz.underlying158,ZnK,Tryz.underlying9,Program.fieldsOf,go_sem]
 simp [ZnH,tc3,tc9,baB]
 rfl
@[go_sem] theorem Znu {a a2:ByteArray} {b b2:ByteArray} {c c2:Int} {d d2:Int} {e e2:Int} {f f2:Int} {KR:PV→Prop}:eqK Tryz.prog .eql 158 [vs a,vs b,vi c,vi d,vi e,vi f] [vs a2,vs b2,vi c2,vi d2,vi e2,vi f2] KR=KR (vb (decide ((⟨a,b,c,d,e,f⟩:YLeg)=(⟨a2,b2,c2,d2,e2,f2⟩:YLeg)))):=by unfold eqK; rw [show (10000:Nat)=9997+3 from rfl,Zib,Tryz.underlying158]; simp only [Zm3,true_and]
@[go_sem] theorem Zny {a a2:ByteArray} {b b2:ByteArray} {c c2:Int} {d d2:Int} {e e2:Int} {f f2:Int} {KR:PV→Prop}:eqK Tryz.prog .neq 158 [vs a,vs b,vi c,vi d,vi e,vi f] [vs a2,vs b2,vi c2,vi d2,vi e2,vi f2] KR=KR (vb (!decide ((⟨a,b,c,d,e,f⟩:YLeg)=(⟨a2,b2,c2,d2,e2,f2⟩:YLeg)))):=by unfold eqK; rw [show (10000:Nat)=9997+3 from rfl,Zib,Tryz.underlying158]; simp only [Zm3,true_and]
theorem ZgA {n:Nat} {a a2:Int} {b b2:Int} {c c2:Int} {d d2:ByteArray} {e e2:Int} {f f2:Int}:eqT Tryz.prog (n+3) 253 [vi a,vi b,vi c,vs d,vi e,vi f] [vi a2,vi b2,vi c2,vs d2,vi e2,vi f2]=some (decide ((⟨a,b,c,d,⟨e,f⟩⟩:Zed)=(⟨a2,b2,c2,d2,⟨e2,f2⟩⟩:Zed))):=by
 simp only [eqT,Tryz.underlying3,Tryz.underlying253,ZnM,Tryz.underlying28,ts28,Tryz.underlying9,Program.fieldsOf,go_sem]
 simp [ZnJ,tc28,tc3,tc9,baB]
 rfl
@[go_sem] theorem Znd {a a2:Int} {b b2:Int} {c c2:Int} {d d2:ByteArray} {e e2:Int} {f f2:Int} {KR:PV→Prop}:eqK Tryz.prog .eql 253 [vi a,vi b,vi c,vs d,vi e,vi f] [vi a2,vi b2,vi c2,vs d2,vi e2,vi f2] KR=KR (vb (decide ((⟨a,b,c,d,⟨e,f⟩⟩:Zed)=(⟨a2,b2,c2,d2,⟨e2,f2⟩⟩:Zed)))):=by unfold eqK; rw [show (10000:Nat)=9997+3 from rfl,ZgA,Tryz.underlying253]; simp only [Zm5,true_and]
@[go_sem] theorem Znf {a a2:Int} {b b2:Int} {c c2:Int} {d d2:ByteArray} {e e2:Int} {f f2:Int} {KR:PV→Prop}:eqK Tryz.prog .neq 253 [vi a,vi b,vi c,vs d,vi e,vi f] [vi a2,vi b2,vi c2,vs d2,vi e2,vi f2] KR=KR (vb (!decide ((⟨a,b,c,d,⟨e,f⟩⟩:Zed)=(⟨a2,b2,c2,d2,⟨e2,f2⟩⟩:Zed)))):=by unfold eqK; rw [show (10000:Nat)=9997+3 from rfl,ZgA,Tryz.underlying253]; simp only [Zm5,true_and]
set_option maxRecDepth 4000
theorem ZjE {ρ:Nat→Option Nat} {m m':Mem} {f:FuncId} {cs ds:List PV} (h:cutL ρ m m' cs ds):CutC ρ m m' (.fn f cs) (.fn f ds):=by
 have key:∀ (cs ds:List PV),cutL ρ m m' cs ds→ds.length=cs.length∧∀ (j:Nat) (p r:PV),cs[j]?=some p→ds[j]?=some r→CutC ρ m m' p r:=by
  intro cs
  induction cs with
  | nil=>intro ds h; cases ds with
   | nil=>exact ⟨rfl,by simp⟩
   | cons d ds=>exact h.elim
  | cons c cs ih=>intro ds h; cases ds with
   | nil=>exact h.elim
   | cons d ds=>
    obtain ⟨h1,h2⟩:=h
    obtain ⟨k1,k2⟩:=ih ds h2
    refine ⟨by simp [k1],fun j p r hp hr=>?_⟩
    cases j with
    | zero=>simp at hp hr; subst hp hr; exact h1
    | succ j=>simp at hp hr; exact k2 j p r hp hr
 obtain ⟨a,b⟩:=key cs ds h
 exact .fn f cs ds a b
theorem Zik {α:Type} {xs:List α} {n:Nat} {y:α} {c:α→List PV} (h:getI xs (n:Int)=some y):(xs.map c)[n]?=some (c y):=by
 unfold getI at h
 rw [if_pos (Int.natCast_nonneg n),Int.toNat_natCast] at h
 rw [List.getElem?_map,h]; rfl
theorem lit3 {a b c i y:Int} (h:getI [a,b,c] i=some y):([[PV.v (.int .i64 a)],[PV.v (.int .i64 b)],[PV.v (.int .i64 c)]]:List (List PV))[i.toNat]?=some [PV.v (.int .i64 y)]:=by
 have:([[PV.v (.int .i64 a)],[PV.v (.int .i64 b)],[PV.v (.int .i64 c)]]:List (List PV))=[a,b,c].map cInt:=rfl
 rw [this]; exact Ze8 h
theorem Zlw {P:Program} {io:Bool} {wd ν:Nat} {f:FuncId} {cs ps:List PV} {m:Mem} {K:PV→Mem→Prop} (h1:∀ c∈cs,isR c=true) (h2:isFn P f) (h3:ZbD P io wd ν f (ps++cs) m K):pDyn P io wd ν (.fn f cs) ps m K:=⟨h1,h2,h3⟩
def Zjq (x:List Int):List PV:=[.sl (x.map cInt)]
instance:ZO (List Int):=⟨Zjq⟩
instance:Zr Zjq:=⟨fun x q h=>by simp only [Zjq,List.mem_singleton] at h; subst h; rfl⟩
attribute [go_sem] Zjq
theorem xc {p:Prop} (h:p:=by (try simp only [U_s,U_z]); (with_reducible refine cutS ?_); (first | (with_reducible apply Zmh) | (with_reducible apply Zmi) | (with_reducible apply Zmj) | (with_reducible apply Zmk) | (with_reducible apply Zml) | (with_reducible apply Zmm) | (with_reducible apply Zmn) | (with_reducible apply Zmo) | (with_reducible apply Zmp) | (with_reducible apply Zmq) | (with_reducible apply Zk4) | (with_reducible apply Zk5) | (with_reducible apply Zk6)); (repeat' (first       | (with_reducible exact ZmI) | (with_reducible refine ZmJ ?_) | (with_reducible refine ZmK ?_) | (with_reducible refine Zk7 ?_)       | (with_reducible refine Zms ?_ ?_)       | (with_reducible exact ZjH)       | (with_reducible exact ZkG rfl)       | exact ZkG rfl       | (with_reducible exact ZjG)       | (with_reducible refine Zmr ?_ ?_)       | exact .c _ rfl       | exact .un _       | exact Zk3 rfl rfl       | exact Zk2 rfl rfl       | exact ZfO | exact Zg7       | exact Zg6 rfl rfl       | (refine Zgv rfl ?_) | (refine Zh3 rfl rfl ?_) | (refine ZjF rfl rfl rfl ?_)       | (refine ZjD rfl rfl ?_)       | (with_reducible refine ZjE ?_) | (with_reducible refine Zk8 ?_)       | (with_reducible refine Zk9 ?_)       | (with_reducible exact Zh1)       | (with_reducible refine Zk1 ?_ ?_)       | (with_reducible refine Zk0 ?_)       | (with_reducible refine Zme ?_)       | (with_reducible refine Zmt ?_)       | (with_reducible exact Zhz)       | (refine Zgc rfl ?_ ?_)       | (refine Zgd rfl ?_) | (refine Zhy rfl ?_)       | (with_reducible refine Zgb ?_)       | (with_reducible refine ZjA ?_)       | (with_reducible exact Zjz)       | (with_reducible refine ZjC ?_)       | (with_reducible exact Zmg)       | (with_reducible refine Zmf ?_ ?_)       | (with_reducible exact ZeZ)       | (with_reducible refine Zgu ?_)       | exact ZeZ       | (refine Zgu ?_)       | (refine ZjB ?_)       | (refine Zh2 ?_)       | (simp only [cInt,cStr,ZfL,cB8,ZeX,ZaT,Zat,ZeQ,ZeO,cLeg,Zcc,Zb0,Zbm,Zee,Zc9,ZeP,ZeN,cAct,Zc8,ZdD,ZdW,ZdX,Zc7,Zda,Zc6])       | (with_unfolding_all rfl))); (all_goals first | (exact Zd0 rfl) | exact none); (first | done | fail)):p:=h
theorem xf {p:Prop} (h:p:=by (first | exact Zij | (repeat (first | exact Zd3 | exact Zei | exact hm_e | (refine hm_c Zd3 ?_) | (refine hm_c Zei ?_) | (refine hm_c hm_e ?_) | exact ZaS (by simp [ZF,isR]) | (refine ZfZ ?_) | (refine hm_c (ZaS (by simp [ZF,isR])) ?_)))); (first | done | fail)):p:=h
theorem xs {p:Prop} (h:p:=by ((refine Za8.weak (CT.ok hy) ?_); (repeat' (first | exact SubA.n | (refine SubA.c ?_ ?_) | exact SubV.c (SubC.r _) | (refine SubV.ag ?_) | exact SubL.n | (refine SubL.c ?_ ?_) | exact SubC.r _ | exact SubC.nil _ | exact SubC.un _))); (first | done | fail)):p:=h
theorem wk3 {p:Prop} (h:p:=by
 (simp only [List.length_cons,List.length_nil,Nat.reduceAdd,Nat.reduceSub,List.replicate_succ,List.replicate_zero,List.cons_append,List.nil_append,go_sem]);
 repeat' (first
  | ((with_reducible refine Zlw ?_ ?_ ?_); (focus (simp [isR])); (focus (simp only [go_sem])); (simp only [List.cons_append,List.nil_append]))
  | ((with_reducible refine Zki H rfl (by kernel_rfl) ?_); (clear H; intro H; simp only [go_sem,Nat.reduceAdd,Nat.reduceSub,Nat.reduceMul,Nat.reduceLT,Nat.reduceLeDiff,Nat.reduceEqDiff,if_true,eq_self]))
  | ((with_reducible refine ZnD (rhoH H) ?_); (refine Zjr H rfl rfl ?_ ?_ ?_ ?_ ?_ ?_ ?_ ?_); (focus (first | rfl | (simp only [CT.args,List.map_cons,List.map_nil,renA,renC,ren1,ZlR,ZlQ,ZlP]; done))); (focus (simp [CT.args,CT.m0,ZbM,ZF,lowA,lowC,low1,isR])); (focus (first | exact List.nodup_nil | decide)); (focus ((simp only [CT.m0]); (repeat' (first | exact Zd5 | (refine Zd4 (by rfl) ?_) | (refine Zd6 (by rfl) (by rfl) (by simp [ZF,lowC,low1,isR]) ?_))))); (focus (intro y_; simp [CT.mem,CT.m0])); (focus (intro y_; (simp only [CT.mem]); (repeat (first | exact Zij | exact Zd3 | exact Zei | (refine hm_c Zd3 ?_) | (refine hm_c (ZaS (by simp [ZF,isR])) ?_) | exact ZaS (by simp [ZF,isR]) | (refine ZfZ ?_))))); (focus (intro y_; (simp [CT.res,ZbG,ZbM,ZF,isR]))); (clear H; intro y_ hy H; simp only [CT.res,CT.mem,Zba,List.drop_succ_cons,List.drop_zero,Option.map_none,go_sem,Nat.reduceAdd,Nat.reduceSub,Nat.reduceMul,Nat.reduceLT,Nat.reduceLeDiff,Nat.reduceEqDiff,if_true,eq_self]))
  | ((with_reducible refine jnS (jnH H) ?_); (first | ((refine ZlF H ?_ ?_ (fun K_ hL H=>?_) (fun o_ H=>?_)); (focus (decide +kernel)); (focus (decide +kernel))) | ((refine ZkN H ?_ ?_ (fun K_ hL H=>?_) (fun o_ H=>?_)); (focus (decide +kernel)); (focus (decide +kernel)))))
  | ((with_reducible refine rhoS (rhoH H) ?_); (refine ZkX H rfl rfl rfl ?_ ?_ ?_ ?_ ?_ ?_ ?_ ?_); (focus (first | rfl | (simp only [CT.args,List.map_cons,List.map_nil,renA,renC,ren1,ZlR,ZlQ,ZlP]; done))); (focus (simp [CT.args,CT.m0,ZbM,ZF,lowA,lowC,low1,isR])); (focus (first | exact List.nodup_nil | decide)); (focus ((simp only [CT.m0]); (repeat' (first | exact Zd5 | (refine Zd4 (by rfl) ?_) | (refine Zd6 (by rfl) (by rfl) (by simp [ZF,lowC,low1,isR]) ?_))))); (focus (intro y_; simp [CT.mem,CT.m0])); (focus (intro y_; (simp only [CT.mem]); (repeat (first | exact Zij | exact Zd3 | exact Zei | (refine hm_c Zd3 ?_) | (refine hm_c (ZaS (by simp [ZF,isR])) ?_) | exact ZaS (by simp [ZF,isR]) | (refine ZfZ ?_))))); (focus (intro y_; (simp [CT.res,ZbG,ZbM,ZF,isR]))); (clear H; intro y_ hy H; simp only [CT.res,CT.mem,Zba,List.drop_succ_cons,List.drop_zero,Option.map_none,go_sem,Nat.reduceAdd,Nat.reduceSub,Nat.reduceMul,Nat.reduceLT,Nat.reduceLeDiff,Nat.reduceEqDiff,if_true,eq_self]))
  | ((with_reducible refine Zkk H ?_ ?_); (focus (exact xc)); (clear H; intro z_ H))
  | ((with_reducible refine ZlE H ?_ ?_); (focus (exact xc)); (clear H; intro H))
  | ((with_reducible refine ZlH ?_); intro K_ hK)
  | ((with_reducible refine ZiQ ?_))
  | ((with_reducible refine Zhw ?_); simp only [go_sem,Nat.reduceAdd,Nat.reduceSub,Nat.reduceMul,Nat.reduceLT,Nat.reduceLeDiff,Nat.reduceEqDiff,if_true,eq_self])
  | ((with_reducible refine Zkl ?_); (try simp only [Zbw,Zbl]))
  | ((with_reducible refine Zkj ?_); (simp only [Zeb,Zc4,Zbw,Zbl,if_true,if_false,eq_self,Nat.reduceEqDiff,Nat.one_ne_zero,Nat.zero_ne_one]); (try simp only [bexR,bsr,bsl] at H))
  | ((with_reducible refine ZlG ?_); (try simp only [ZfG,ZdS]))
  | ((with_reducible refine hQ _ _ ?_); (try simp only [bexR,bsr,bsl] at H); replace H:=Hret H; subst H; simp only [Fin,resP,oneP,go_sem,Nat.reduceAdd,Nat.reduceSub,Nat.reduceMul,Nat.reduceLT,Nat.reduceLeDiff,Nat.reduceEqDiff,if_true,eq_self]; exact xc)
  | ((with_reducible refine hQn _ _ ?_); (try simp only [bexR,bsr,bsl] at H); replace H:=Hret H; subst H; simp only [Fin,resP,oneP,go_sem,Nat.reduceAdd,Nat.reduceSub,Nat.reduceMul,Nat.reduceLT,Nat.reduceLeDiff,Nat.reduceEqDiff,if_true,eq_self]; exact xc)
  | ((with_reducible refine Znv ?_); (refine ZfW (fun hg=>Hc1k H hg ?_) (fun hg=>Hc2k H hg ?_)) <;> (clear H; intro H; simp only [go_sem,Nat.reduceAdd,Nat.reduceSub,Nat.reduceMul,Nat.reduceLT,Nat.reduceLeDiff,Nat.reduceEqDiff,if_true,eq_self]))
  | ((with_reducible refine ZiR ?_); simp only [Zie,ZkK,ZkJ,ZgC]; (first | (with_reducible refine Zjv ?_) | (with_reducible refine Zju ?_) | ((refine ZfM (fun hg=>Hc1k H hg ?_) (fun hg=>Hc2k H hg ?_)) <;> (clear H; intro H))))
  | ((with_reducible refine idxS ?_); replace H:=ZfK H; obtain ⟨y_,hy,H⟩:=H; (with_reducible apply ZmF hy); (focus (first | (simp only [go_sem]; done) | (simp only [go_sem]; decide))); (focus (first | rfl | (simp only [go_sem]; rfl))); simp only [go_sem,Nat.reduceAdd,Nat.reduceSub,Nat.reduceMul,Nat.reduceLT,Nat.reduceLeDiff,Nat.reduceEqDiff,if_true,eq_self])
  | ((with_reducible refine idxM ?_); replace H:=ZfK H; obtain ⟨y_,hy,H⟩:=H; (first | (refine Zll hy (by rfl) (by first | (simp only [go_sem]; done) | (simp only [go_sem]; decide)) (by first | rfl | (simp only [go_sem]; rfl)) ?_) | (refine ZjX hy (by rfl) (by first | (simp only [go_sem]; done) | (simp only [go_sem]; decide)) (by first | rfl | (simp only [go_sem]; rfl)) ?_)); simp only [go_sem,Nat.reduceAdd,Nat.reduceSub,Nat.reduceMul,Nat.reduceLT,Nat.reduceLeDiff,Nat.reduceEqDiff,if_true,eq_self])
  | ((with_reducible refine idxB ?_); replace H:=ZfK H; obtain ⟨y_,hy,H⟩:=H; (with_reducible apply Zlm hy); (focus (simp only [go_sem])); simp only [go_sem,Nat.reduceAdd,Nat.reduceSub,Nat.reduceMul,Nat.reduceLT,Nat.reduceLeDiff,Nat.reduceEqDiff,if_true,eq_self])
  | ((with_reducible refine Zni ?_); replace H:=ZfK H; obtain ⟨y_,hy,H⟩:=H; (first | ((with_reducible apply ZeR); (focus (exact CT.ok hy)); (focus (simp [isCA,isC,isC1])); (focus (exact Nat.le_of_ble_eq_true rfl)); (focus (exact xf)); (focus (first | exact Zmx rfl | exact Zmz rfl | exact ZkH rfl | exact ZkI rfl | exact (fun h=>(by cases h)) | (simp [CT.res,ZbG,ZbM,ZF,isR]))); (simp only [CT.res,CT.mem,go_sem,Nat.reduceAdd,Nat.reduceSub,Nat.reduceMul,Nat.reduceLT,Nat.reduceLeDiff,Nat.reduceEqDiff,if_true,eq_self])) | ((with_reducible apply ZeR); (focus (exact xs)); (focus (simp [isCA,isC,isC1])); (focus (exact Nat.le_of_ble_eq_true rfl)); (focus (exact xf)); (focus (first | exact Zmx rfl | exact Zmz rfl | exact ZkH rfl | exact ZkI rfl | exact (fun h=>(by cases h)) | (simp [CT.res,ZbG,ZbM,ZF,isR]))); (simp only [CT.res,CT.mem,go_sem,Nat.reduceAdd,Nat.reduceSub,Nat.reduceMul,Nat.reduceLT,Nat.reduceLeDiff,Nat.reduceEqDiff,if_true,eq_self])) | ((with_reducible apply ZhW); (focus (first | (simp only [ZdP,ZeC,Zdz,ZeB,Zcj,ZgP,ZgO,Zc1,Zb6,Zb9,List.forall_mem_nil,true_and,and_true,if_true]; (first | exact CT.ok hy | (simp only [all_nil,all_cons,isC,isC1,true_and,and_true,if_true]; exact CT.ok hy))) | (simp only [ZdP,ZeC,Zdz,ZeB,Zcj,ZgP,ZgO,Zc1,Zb6,Zb9,List.forall_mem_nil,true_and,and_true,if_true]; (first | (exact xs) | (simp only [all_nil,all_cons,isC,isC1,true_and,and_true,if_true]; (exact xs)))) | (simp only [ZdP,ZeC,Zdz,ZeB,Zcj,ZgP,ZgO,Zc1,Zb6,Zb9,List.forall_mem_nil,true_and,and_true,if_true]; (exact xs)))); (focus (exact Nat.le_of_ble_eq_true rfl)); (focus (exact xf)); (focus (first | exact Zmy rfl | exact (fun _=>rfl) | (simp [CT.res,ZbG,ZbM,ZF,isF]))); (simp only [CT.res,CT.mem,go_sem,Nat.reduceAdd,Nat.reduceSub,Nat.reduceMul,Nat.reduceLT,Nat.reduceLeDiff,Nat.reduceEqDiff,if_true,eq_self]))))
  | ((with_reducible refine slcS ?_); replace H:=Hchk H; obtain ⟨hc,H⟩:=H; (first | ((with_reducible apply Zkt hc); (focus rfl); (focus rfl); (focus (first | (simp only [go_sem]; done) | (simp only [go_sem]; decide))); (focus (first | rfl | (intro x_; rfl))); simp only [go_sem,Nat.reduceAdd,Nat.reduceSub,Nat.reduceMul,Nat.reduceLT,Nat.reduceLeDiff,Nat.reduceEqDiff,if_true,eq_self]) | ((refine Zi3 hc (by rfl) (by rfl) (by rfl) (by first | (simp only [go_sem]; done) | (simp only [go_sem]; decide)) (by first | rfl | (simp only [go_sem]; rfl)) ?_); simp only [go_sem,Nat.reduceAdd,Nat.reduceSub,Nat.reduceMul,Nat.reduceLT,Nat.reduceLeDiff,Nat.reduceEqDiff,if_true,eq_self]) | ((with_reducible apply Zi4 hc); (focus rfl); (focus rfl); (focus (simp only [go_sem])); simp only [go_sem,Nat.reduceAdd,Nat.reduceSub,Nat.reduceMul,Nat.reduceLT,Nat.reduceLeDiff,Nat.reduceEqDiff,if_true,eq_self])))
  | ((with_reducible refine appS ?_); replace H:=Hchk H; obtain ⟨hc,H⟩:=H; (first | (refine ZkV hc (by first | (simp only [go_sem]; done) | (simp only [go_sem]; rfl)) (by first | (simp only [go_sem]; done) | (simp only [go_sem]; rfl)) (by first | (simp only [go_sem]; done) | (simp only [go_sem]; rfl)) (by first | (simp only [go_sem]; done) | (simp only [go_sem]; rfl)) (by rfl) (by first | rfl | exact Zi6 (by rfl) (by rfl) (by rfl)) rfl rfl (by intro x_; rfl) rfl ?_) | (refine ZkW hc (by first | (simp only [go_sem]; done) | (simp only [go_sem]; rfl)) (by first | (simp only [go_sem]; done) | (simp only [go_sem]; rfl)) (by first | (simp only [go_sem]; done) | (simp only [go_sem]; rfl)) (by first | (simp only [go_sem]; done) | (simp only [go_sem]; rfl)) (by first | rfl | exact Zi6 (by rfl) (by rfl) (by rfl)) rfl rfl (by intro x_; rfl) ?_)); simp only [go_sem,Nat.reduceAdd,Nat.reduceSub,Nat.reduceMul,Nat.reduceLT,Nat.reduceLeDiff,Nat.reduceEqDiff,if_true,eq_self])
  | ((with_reducible refine mkS ?_); replace H:=Hchk H; obtain ⟨hc,H⟩:=H; (refine ZmL hc (by first | (simp only [go_sem]; done) | (simp only [go_sem]; rfl)) (by first | (simp only [go_sem]; done) | (simp only [go_sem]; rfl)) (by first | (simp only [go_sem]; done) | (simp only [go_sem]; rfl)) (by first | (simp only [go_sem]; done) | (simp only [go_sem]; rfl)) rfl rfl ?_); simp only [go_sem,Nat.reduceAdd,Nat.reduceSub,Nat.reduceMul,Nat.reduceLT,Nat.reduceLeDiff,Nat.reduceEqDiff,if_true,eq_self])
  | ((with_reducible refine optS ?_); (first | (with_reducible refine ZgQ (by decide) ?_) | (replace H:=Hchk H; obtain ⟨hc,H⟩:=H; (first | (refine ZgQ hc ?_) | (refine ZgQ (of_decide_eq_true hc) ?_) | (refine ZgQ ⟨rfl,of_decide_eq_true hc⟩ ?_)))); simp only [go_sem,Nat.reduceAdd,Nat.reduceSub,Nat.reduceMul,Nat.reduceLT,Nat.reduceLeDiff,Nat.reduceEqDiff,if_true,eq_self])
  | ((with_reducible refine Znx ?_); (refine ZiT (Hlp H) ?_ ?_); (focus (simp only [Zbe.T,Zbe.M,U_s,U_z]; exact xc)); (clear H; intro n_ s_ H K_ hL; replace H:=Hrd H; simp only [Zbe.T,Zbe.M,U_s,U_z]))
  | ((with_reducible refine Zkh (by kernel_rfl) ?_); simp only [go_sem,Nat.reduceAdd,Nat.reduceSub,Nat.reduceMul,Nat.reduceLT,Nat.reduceLeDiff,Nat.reduceEqDiff,if_true,eq_self])
  | ((with_reducible refine Zha (by kernel_rfl) ?_); (try simp only [Zbw,Zbl]))
  | ((with_reducible refine hK _ _ ?_); clear hK)
  | (clear hK; (with_reducible refine hK _ _ ?_); clear hK)
  | (clear hK; clear hK; (with_reducible refine hK _ _ ?_); clear hK)
  | (clear hK; clear hK; clear hK; (with_reducible refine hK _ _ ?_); clear hK)
  | (clear hK; clear hK; clear hK; clear hK; (with_reducible refine hK _ _ ?_); clear hK)
  | (clear hK; clear hK; clear hK; clear hK; clear hK; (with_reducible refine hK _ _ ?_); clear hK)
  | ((with_reducible refine And.intro ?_ ?_); omega)
  | (simp only [Ziw,Ziu,Ziv,ZhT]; simp only [go_sem,Nat.reduceAdd,Nat.reduceSub,Nat.reduceMul,Nat.reduceLT,Nat.reduceLeDiff,Nat.reduceEqDiff,if_true,eq_self])
  | ((first | simp only [lit3 hy,Option.map_some,List.drop_zero,go_sem] | simp only [Zik hy,Ze8 hy,ZgJ hy,go_sem,Nat.reduceAdd,Nat.reduceSub,Nat.reduceMul,Nat.reduceLT,Nat.reduceLeDiff,Nat.reduceEqDiff,if_true,eq_self] | simp only [Ze8 hy,ZgJ hy,go_sem,Nat.reduceAdd,Nat.reduceSub,Nat.reduceMul,Nat.reduceLT,Nat.reduceLeDiff,Nat.reduceEqDiff,if_true,eq_self]))
  | ((with_reducible replace H:=HexL H); (with_reducible refine hL _ _ _ H ?_); (try simp only [Zbe.T,Zbe.M,U_s,U_z]); exact xc)
  | ((with_reducible replace H:=HexL H); clear hL; (with_reducible refine hL _ _ _ H ?_); (try simp only [Zbe.T,Zbe.M,U_s,U_z]); exact xc)
  | ((with_reducible refine jnX H hL ?_); exact xc)
  | (with_reducible exact (Znh H).elim)
  | ((with_reducible replace H:=rgH H); obtain ⟨y_,hy,H⟩:=H; (first | simp only [lit3 hy,Option.map_some,List.drop_zero,go_sem] | simp only [Zik hy,Ze8 hy,ZgJ hy,go_sem,Nat.reduceAdd,Nat.reduceSub,Nat.reduceMul,Nat.reduceLT,Nat.reduceLeDiff,Nat.reduceEqDiff,if_true,eq_self] | simp only [Ze8 hy,ZgJ hy,go_sem,Nat.reduceAdd,Nat.reduceSub,Nat.reduceMul,Nat.reduceLT,Nat.reduceLeDiff,Nat.reduceEqDiff,if_true,eq_self])))):p:=h
set_option maxHeartbeats 16000000
def Zf (s:ByteArray) (s0:Int):Option (Int ⊕ (Unit ⊕ Bool)):=
 cond (decide (s0<(s.size:Int)))
 ((getB s s0).bind fun y1=>
 cond (decide (y1<65))
 (some (.inr (.inr false)))
 ((getB s s0).bind fun y2=>
 cond (decide (90<y2))
 (some (.inr (.inr false)))
 (some (.inl (w64 (s0+1))))))
 (some (.inr (.inl ())))
instance (s:ByteArray):Zbe (Zf s):=⟨fun s0=>(vs s::.un::.un::vi s0::(U 19 [])),fun s0=>[]⟩
def ZM (s:ByteArray):Option Bool:=
 (Zg (Zf s) NN 0).bind (Zac (fun o0=>
 some (decide ((s.size:Int)=3))) (fun r=>some r))
instance (s:ByteArray):CT Tryz.prog (ZM s):=⟨71,[vs s],[],fun r=>vb r,fun r=>[],fun H=>by replace H:=H0 H; unfold ZM at H; exact Zb Tryz.func71 rfl Tryz.ntmps71 Tryz.results71 fun Q hQ hQn=>wk3⟩
def Zj (x:Int) (least:Int) (most:Int):Option Bool:=
 cond (decide (least≤x))
 (some (decide (x≤most)))
 (some false)
instance (x:Int) (least:Int) (most:Int):CT Tryz.prog (Zj x least most):=⟨51,[vi x,vi least,vi most],[],fun r=>vb r,fun r=>[],fun H=>by replace H:=H0 H; unfold Zj at H; exact Zb Tryz.func51 rfl Tryz.ntmps51 Tryz.results51 fun Q hQ hQn=>wk3⟩
def ZQ (s:ByteArray) (s0:Int):Option (Int ⊕ (Unit ⊕ Bool)):=
 cond (decide (s0<3))
 ((getB s s0).bind fun y1=>
 (Zj (IntKind.i64.wrap y1) 65 90).bind fun y2=>
 cond (!y2)
 (some (.inr (.inr false)))
 (some (.inl (w64 (s0+1)))))
 (some (.inr (.inl ())))
instance (s:ByteArray):Zbe (ZQ s):=⟨fun s0=>(vs s::.un::.un::vi s0::(U 13 [])),fun s0=>[]⟩
def Zh (s:ByteArray):Option Bool:=
 cond (!decide ((s.size:Int)=3))
 (some false)
 ((Zg (ZQ s) NN 0).bind (Zac (fun o0=>
 some true) (fun r=>some r)))
instance (s:ByteArray):CT Tryz.prog (Zh s):=⟨76,[vs s],[],fun r=>vb r,fun r=>[],fun H=>by replace H:=H0 H; unfold Zh at H; exact Zb Tryz.func76 rfl Tryz.ntmps76 Tryz.results76 fun Q hQ hQn=>wk3⟩
def Zi (n:Int) (low:Int) (high:Int):Option Bool:=
 cond (decide (low≤n))
 (some (decide (n≤high)))
 (some false)
instance (n:Int) (low:Int) (high:Int):CT Tryz.prog (Zi n low high):=⟨48,[vi n,vi low,vi high],[],fun r=>vb r,fun r=>[],fun H=>by replace H:=H0 H; unfold Zi at H; exact Zb Tryz.func48 rfl Tryz.ntmps48 Tryz.results48 fun Q hQ hQn=>wk3⟩
theorem ZkA (n l h:Int):Zi n l h=some (decide (l≤n) && decide (n≤h)):=by
 unfold Zi; cases decide (l≤n) <;> rfl
theorem Zbp (n l h:Int):Zj n l h=some (decide (l≤n) && decide (n≤h)):=by
 unfold Zj; cases decide (l≤n) <;> rfl
theorem Zct:@Zi=@Zj:=by funext n l h; rw [ZkA,Zbp]
theorem ZfX {s:ByteArray} {i c:Int} (h:getB s i=some c):0≤c∧c≤255:=by
 unfold getB at h
 split at h
 ·cases h
  unfold ZdT
  cases hb:s[i.toNat]? with
  | none=>simp
  | some b=>
   have:=b.toNat_lt
   simp only [Option.map_some,Option.getD_some]
   omega
 ·cases h
theorem ZiC {s:ByteArray} (hs:s.size=3):Zf s=ZQ s:=by
 funext i
 unfold Zf ZQ
 rw [hs]
 cases hi:decide (i<3) with
 | false=>simp [hi]
 | true=>
  simp only [show ((3:Nat):Int)=3 from rfl,hi,cond_true]
  cases hg:getB s i with
  | none=>rfl
  | some y=>
   obtain ⟨h0,h1⟩:=ZfX hg
   simp only [Option.bind_some,hg]
   rw [show IntKind.i64.wrap y=y from Zcs (by omega),Zbp]
   simp only [Option.bind_some]
   by_cases h2:y<65
   ·simp [h2,show ¬ (65≤y) by omega]
   ·by_cases h3:90<y
    ·simp [h2,h3,show ¬ (y≤90) by omega]
    ·simp [h2,h3,show 65≤y by omega,show y≤90 by omega]
theorem Ze7 {s:ByteArray} {i:Nat} (h:i<s.size):∃ c,getB s (i:Int)=some c:=by
 unfold getB; exact ⟨_,if_pos ⟨by omega,by omega⟩⟩
theorem Zf8 {s:ByteArray} (hs:s.size≤1152921504606846000):∀ (k i N:Nat),i+k=s.size→k<N→∃ o,Zg (Zf s) N (i:Int)=some o∧(o=.inl ()∨o=.inr false):=by
 intro k
 induction k with
 | zero=>
  intro i N hi hk
  cases N with
  | zero=>omega
  | succ N=>exact ⟨.inl (),by simp [Zg,Zf,show ¬ ((i:Int)<s.size) by omega],.inl rfl⟩
 | succ k ih=>
  intro i N hi hk
  cases N with
  | zero=>omega
  | succ N=>
   obtain ⟨c,hc⟩:=Ze7 (s:=s) (i:=i) (by omega)
   have hw:=Zbi (i:=i) (n:=s.size) (by omega) (by omega)
   by_cases h2:c<65
   ·exact ⟨.inr false,by simp [Zg,Zf,show (i:Int)<s.size by omega,hc,h2],.inr rfl⟩
   ·by_cases h3:90<c
    ·exact ⟨.inr false,by simp [Zg,Zf,show (i:Int)<s.size by omega,hc,h2,h3],.inr rfl⟩
    ·obtain ⟨o,ho,hoo⟩:=ih (i+1) N (by omega) (by omega)
     refine ⟨o,?_,hoo⟩
     simp only [Zg,Zf,decide_eq_true (show (i:Int)<s.size by omega),cond_true,hc,Option.bind_some,decide_eq_false h2,decide_eq_false h3,cond_false,hw]
     exact ho
theorem Zcx {s:ByteArray} (hs:s.size≤1152921504606846000):ZM s=Zh s∧∃ b,Zh s=some b:=by
 obtain ⟨o,ho,hoo⟩:=Zf8 hs s.size 0 NN (by omega) (by unfold NN; omega)
 have ho':Zg (Zf s) NN 0=some o:=ho
 by_cases h3:s.size=3
 ·have e:Zh s=(Zg (Zf s) NN 0).bind (Zac (fun _=>some true) (fun r=>some r)):=by
   unfold Zh; rw [ZiC h3,h3]; rfl
  have e2:ZM s=(Zg (Zf s) NN 0).bind (Zac (fun _=>some (decide ((s.size:Int)=3))) (fun r=>some r)):=rfl
  rw [e,e2,ho',h3]
  rcases hoo with rfl | rfl
  ·exact ⟨rfl,_,rfl⟩
  ·exact ⟨rfl,_,rfl⟩
 ·have e:Zh s=some false:=by unfold Zh; rw [decide_eq_false (by omega)]; rfl
  have e2:ZM s=some false:=by
   unfold ZM; rw [ho']
   rcases hoo with rfl | rfl
   ·show some _=some _; rw [decide_eq_false (by omega)]
   ·rfl
  exact ⟨by rw [e,e2],_,e⟩
def B60:Nat:=1152921504606846000
def dg (u:Nat):List UInt8:=if h:u=0 then [] else dg (u / 10)++[UInt8.ofNat (48+u % 10)]
termination_by u
decreasing_by omega
theorem ZfP:dg 0=[]:=by rw [dg,dif_pos rfl]
theorem Zh9 {u:Nat} (h:0<u):dg u=dg (u / 10)++[UInt8.ofNat (48+u % 10)]:=by rw [dg,dif_neg (by omega)]
theorem Zh8:∀ (k u:Nat),u≤k→0<u→dg u=Lib.decDigits u
 | 0,u,h,h0=>by omega
 | k+1,u,h,h0=>by
  rw [Zh9 h0,Lib.decDigits]
  by_cases h10:u<10
  ·rw [dif_pos h10,show u / 10=0 by omega,ZfP,show u % 10=u by omega]; rfl
  ·rw [dif_neg h10,Zh8 k (u / 10) (by omega) (by omega)]
def txt (l:List UInt8):ByteArray:=⟨l.toArray⟩
theorem ZeJ (c:Nat) (l:List UInt8):strOfNums [(c:Int)]++txt l=txt (UInt8.ofNat c::l):=by
 apply ByteArray.ext
 rw [ByteArray.data_append]
 simp [strOfNums,txt]
theorem Ze (l:List UInt8):(txt l).size=l.length:=by simp [txt,ByteArray.size]
theorem Zmu (u:Nat) (h:u≤9223372036854775808):(dg u).length≤21:=by
 rcases Nat.eq_zero_or_pos u with rfl | h0
 ·rw [ZfP]; simp
 ·rw [Zh8 u u (Nat.le_refl _) h0]
  have:=Lib.itoa_length_le (-(u:Int)) (by omega) (by omega)
  unfold Lib.itoa at this
  rw [if_pos (by omega),show (-(u:Int)).natAbs=u by omega] at this
  simp at this
  omega
theorem ZdF (n:Int) (h0:-9223372036854775808≤n) (h1:n≤9223372036854775807) (w:World):
 Calls Tryz.prog 56 #[.int .i64 n] w fun e w'=>e=.returned (.string (txt (Lib.itoa n)))∧Up w w':=by
 by_cases hn0:n=0
 ·subst hn0
  go_enter Tryz.func56,Tryz.ntmps56
  go_wp2
  go_ret
  refine ⟨?_,by (repeat (first | exact Up.rfl' _ | (refine Up.al _ ?_) | (refine Up.dr _ ?_) | (refine Up.dr1 ?_) | (refine Up.sc ?_ (by first | exact Nat.le_refl _ | (simp; done) | omega) _) | (refine Up.step (by assumption) ?_)))⟩
  congr 1
  unfold Lib.itoa
  rw [if_neg (by omega),Lib.decDigits,dif_pos (by decide)]
  rfl
 ·have hfin:∀ l:List UInt8,dg n.natAbs=l→(if n<0 then 45::l else l)=Lib.itoa n:=by
   rintro l rfl
   rw [Zh8 _ _ (Nat.le_refl _) (by omega)]
   unfold Lib.itoa
   split
   ·rfl
   ·rw [show n.natAbs=n.toNat by omega]
  have hlen:=Zmu n.natAbs (by omega)
  go_enter Tryz.func56,Tryz.ntmps56
  go_wp2
  go_loopw [3,4] (fun ss xx wr=>∃ (m:Int) (l:List UInt8),xx=.int .i64 m∧ss=.string (txt l)∧dg m.natAbs++l=dg n.natAbs∧-9223372036854775808≤m∧m≤9223372036854775807∧Up w wr) (fun _ xx _=>(intOf xx).natAbs)
  case atStart=>exact ⟨n,[],rfl,rfl,by simp,h0,h1,by (repeat (first | exact Up.rfl' _ | (refine Up.al _ ?_) | (refine Up.dr _ ?_) | (refine Up.dr1 ?_) | (refine Up.sc ?_ (by first | exact Nat.le_refl _ | (simp; done) | omega) _) | (refine Up.step (by assumption) ?_)))⟩
  case round=>
   obtain ⟨m,l,rfl,rfl,hd,hm0,hm1,hb⟩:=hrel
   have hl:l.length≤21:=by
    have:=congrArg List.length hd
    rw [List.length_append] at this
    omega
   by_cases hz:m=0
   ·subst hz
    have hd':l=dg n.natAbs:=by simpa [ZfP] using hd
    have hs:(txt l).size≤30:=by rw [Ze]; omega
    have hf:=hfin l hd'.symm
    clear hfin
    have h45:(⟨#[45]⟩:ByteArray).size=1:=rfl
    have HF:=Lib.hid hf
    clear hf hd hd'
    go_wp2
    all_goals (try (exfalso; omega))
    all_goals (go_ret; refine ⟨?_,by (repeat (first | exact Up.rfl' _ | (refine Up.al _ ?_) | (refine Up.dr _ ?_) | (refine Up.dr1 ?_) | (refine Up.sc ?_ (by first | exact Nat.le_refl _ | (simp; done) | omega) _) | (refine Up.step (by assumption) ?_)))⟩; have hf:=HF.out; first | (rw [if_pos (by omega)] at hf; rw [← hf]; rfl) | (rw [if_neg (by omega)] at hf; exact congrArg (fun l=>Ending.returned (.string (txt l))) hf))
   ·have hs:(txt l).size≤30:=by rw [Ze]; omega
    have hu8:∀ c:Nat,c<10→UInt8.ofNat (48+c)=UInt8.ofNat (48+c):=fun _ _=>rfl
    by_cases hneg:m<0
    ·obtain ⟨u,rfl⟩:∃ u:Nat,m=-(u:Int):=⟨m.natAbs,by omega⟩
     have hu:0<u:=by omega
     rw [show (-(u:Int)).natAbs=u by omega,Zh9 hu] at hd
     have hcv:=fun z:Int=>run_convert_bytes_arg (P:=Tryz.prog) (wr.alloc (.cells #[.int .u8 z] 5)) 40 5 Tryz.underlying40 Tryz.underlying5 wr.heap.size 0 1 1 [z] rfl (fun i hi=>(by obtain rfl:i=0:=(by omega); simp [go_sem])) 9 Tryz.underlying9
     have hcv1:=hcv (48+(u:Int) % 10)
     have hcv2:=hcv (48 + -((u:Int) % 10))
     clear hcv
     have hsz:(strOfNums [48+(u:Int) % 10]).size=1:=by simp [strOfNums,ByteArray.size]
     have hsz2:(strOfNums [48 + -((u:Int) % 10)]).size=1:=by simp [strOfNums,ByteArray.size]
     go_wp2
     all_goals (try (exfalso; omega))
     ·refine ⟨⟨-((u / 10:Nat):Int),UInt8.ofNat (48+u % 10)::l,by congr 1,?_,?_,by omega,by omega,by (repeat (first | exact Up.rfl' _ | (refine Up.al _ ?_) | (refine Up.dr _ ?_) | (refine Up.dr1 ?_) | (refine Up.sc ?_ (by first | exact Nat.le_refl _ | (simp; done) | omega) _) | (refine Up.step (by assumption) ?_)))⟩,by simp [intOf]; omega⟩
      ·rw [show (48+(u:Int) % 10)=((48+u % 10:Nat):Int) by omega,ZeJ]
      ·rw [show (-((u / 10:Nat):Int)).natAbs=u / 10 by omega,← hd]; simp
     ·refine ⟨⟨-((u / 10:Nat):Int),UInt8.ofNat (48+u % 10)::l,by congr 1,?_,?_,by omega,by omega,by (repeat (first | exact Up.rfl' _ | (refine Up.al _ ?_) | (refine Up.dr _ ?_) | (refine Up.dr1 ?_) | (refine Up.sc ?_ (by first | exact Nat.le_refl _ | (simp; done) | omega) _) | (refine Up.step (by assumption) ?_)))⟩,by simp [intOf]; omega⟩
      ·rw [show (48 + -((u:Int) % 10))=((48+u % 10:Nat):Int) by omega,ZeJ]
      ·rw [show (-((u / 10:Nat):Int)).natAbs=u / 10 by omega,← hd]; simp
    ·obtain ⟨u,rfl⟩:∃ u:Nat,m=(u:Int):=⟨m.toNat,by omega⟩
     have hu:0<u:=by omega
     rw [show ((u:Int)).natAbs=u by omega,Zh9 hu] at hd
     have hcv:=run_convert_bytes_arg (P:=Tryz.prog) (wr.alloc (.cells #[.int .u8 (48+(u:Int) % 10)] 5)) 40 5 Tryz.underlying40 Tryz.underlying5 wr.heap.size 0 1 1 [48+(u:Int) % 10] rfl (fun i hi=>(by obtain rfl:i=0:=(by omega); simp [go_sem])) 9 Tryz.underlying9
     have hsz:(strOfNums [48+(u:Int) % 10]).size=1:=by simp [strOfNums,ByteArray.size]
     go_wp2
     refine ⟨⟨((u / 10:Nat):Int),UInt8.ofNat (48+u % 10)::l,by congr 1,?_,?_,by omega,by omega,by (repeat (first | exact Up.rfl' _ | (refine Up.al _ ?_) | (refine Up.dr _ ?_) | (refine Up.dr1 ?_) | (refine Up.sc ?_ (by first | exact Nat.le_refl _ | (simp; done) | omega) _) | (refine Up.step (by assumption) ?_)))⟩,by simp [intOf]; omega⟩
     ·rw [show (48+(u:Int) % 10)=((48+u % 10:Nat):Int) by omega,ZeJ]
     ·rw [show (((u / 10:Nat):Int)).natAbs=u / 10 by omega,← hd]; simp
end Go.Proofs.YtgdcengoopjplaaGreatDoor
