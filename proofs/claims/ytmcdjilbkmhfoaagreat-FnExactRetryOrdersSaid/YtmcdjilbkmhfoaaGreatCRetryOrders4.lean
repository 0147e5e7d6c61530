/- A part of the proof of the statement in the last file of this claim: texts on the language of the program and on its functions. No condition. -/
import Derived.Test.YtmcdjilbkmhfoaaGreatCRetryOrders3
import Derived.IntWalk
import Derived.Test.YtmcdjilbkmhfoaaGreatProg
import Derived.Test.YtmcdjilbkmhfoaaGreatCRetryOrders1
import Derived.Laws.AppendOwnNone
set_option linter.unusedVariables false
set_option linter.unusedSimpArgs false
namespace Go.Proofs.YtmcdjilbkmhfoaaGreat
set_option maxRecDepth 10000
open Go.RowKit
set_option linter.unusedVariables false
set_option linter.unusedSimpArgs false
/-! What the rewriting need not go into. -/
@[congr] theorem Zr6 {P:Program} {ops:Array Oper} {K:List PV→Mem→Prop} {rest:List Oper} {t:List PV} {t':List PV} {m:Mem} {m':Mem} (h_t:t=t') (h_m:m=m'):pops P ops K rest t m=pops P ops K rest t' m':=by subst h_t h_m; rfl
@[congr] theorem ZrO {P:Program} {wd:Nat} {base:Nat} {fl:List Nat} {ops:Array Oper} {KD:List LE→List PV→Mem→Prop} {i:Nat} {rest:List Oper} {g:List LE} {g':List LE} {t:List PV} {t':List PV} {m:Mem} {m':Mem} (h_t:t=t') (h_m:m=m') (h_g:g=g'):popsD P wd base fl ops KD i rest g t m=popsD P wd base fl ops KD i rest g' t' m':=by subst h_t h_m h_g; rfl
@[congr] theorem Zsr {P:Program} {ops:Array Oper} {K:List PV→Mem→Prop} {rest:List Oper} {t:List PV} {t':List PV} {d:Option Tmp} {p:PV} {p':PV} {m:Mem} {m':Mem} (h_t:t=t') (h_p:p=p') (h_m:m=m'):nxt P ops K rest t d p m=nxt P ops K rest t' d p' m':=by subst h_t h_p h_m; rfl
@[congr] theorem Zsp {P:Program} {wd:Nat} {base:Nat} {fl:List Nat} {ops:Array Oper} {KD:List LE→List PV→Mem→Prop} {i:Nat} {rest:List Oper} {g:List LE} {g':List LE} {t:List PV} {t':List PV} {d:Option Tmp} {p:PV} {p':PV} {m:Mem} {m':Mem} (h_t:t=t') (h_p:p=p') (h_m:m=m') (h_g:g=g'):nxd P wd base fl ops KD i rest g t d p m=nxd P wd base fl ops KD i rest g' t' d p' m':=by subst h_t h_p h_m h_g; rfl
@[congr] theorem Zsz {P:Program} {ops:Array Oper} {K:List PV→Mem→Prop} {rest:List Oper} {d:Option Tmp} {o:Op} {m:Mem} {m':Mem} {t:List PV} {t':List PV} (h_m:m=m') (h_t:t=t'):rgo P ops K rest d o m t=rgo P ops K rest d o m' t':=by subst h_m h_t; rfl
@[congr] theorem Zsv {P:Program} {ops:Array Oper} {K:List PV→Mem→Prop} {rest:List Oper} {d:Option Tmp} {m:Mem} {m':Mem} {t:List PV} {t':List PV} (h_m:m=m') (h_t:t=t'):pgo P ops K rest d m t=pgo P ops K rest d m' t':=by subst h_m h_t; rfl
@[congr] theorem Zsy {P:Program} {wd:Nat} {base:Nat} {fl:List Nat} {ops:Array Oper} {KD:List LE→List PV→Mem→Prop} {i:Nat} {rest:List Oper} {g:List LE} {oo:Oper} {m:Mem} {m':Mem} {t:List PV} {t':List PV} (h_m:m=m') (h_t:t=t'):rge P wd base fl ops KD i rest g oo m t=rge P wd base fl ops KD i rest g oo m' t':=by subst h_m h_t; rfl
@[congr] theorem Zsq {P:Program} {wd:Nat} {base:Nat} {fl:List Nat} {ops:Array Oper} {KD:List LE→List PV→Mem→Prop} {i:Nat} {rest:List Oper} {g:List LE} {oo:Oper} {ν ν':Nat} {t t':List PV} {ρ:List Nat} {p p':PV} {m m':Mem} (h_t:t=t') (h_p:p=p') (h_m:m=m') (h_n:ν=ν'):nxe P wd base fl ops KD i rest g oo ν t ρ p m=nxe P wd base fl ops KD i rest g oo ν' t' ρ p' m':=by subst h_t h_p h_m h_n; rfl
@[congr] theorem Zr5 {P:Program} {wd ν ν':Nat} {o:Op} {t t':List PV} {m m':Mem} {K:List Nat→PV→Mem→Prop} (h_n:ν=ν') (h_t:t=t') (h_m:m=m'):popI P wd ν o t m K=popI P wd ν' o t' m' K:=by subst h_n h_t h_m; rfl
@[congr] theorem Zss {P:Program} {wd ν ν':Nat} {f:FuncId} {ps ps':List PV} {m m':Mem} {K:List Nat→PV→Mem→Prop} (h_n:ν=ν') (h_p:ps=ps') (h_m:m=m'):pIO P wd ν f ps m K=pIO P wd ν' f ps' m' K:=by subst h_n h_p h_m; rfl
@[congr] theorem Zsx {P:Program} {wd:Nat} {base:Nat} {fl:List Nat} {ops:Array Oper} {KD:List LE→List PV→Mem→Prop} {i:Nat} {rest:List Oper} {g:List LE} {oo:Oper} {m:Mem} {m':Mem} {t:List PV} {t':List PV} (h_m:m=m') (h_t:t=t'):rgd P wd base fl ops KD i rest g oo m t=rgd P wd base fl ops KD i rest g oo m' t':=by subst h_m h_t; rfl
@[congr] theorem Zsu {P:Program} {wd:Nat} {base:Nat} {fl:List Nat} {ops:Array Oper} {KD:List LE→List PV→Mem→Prop} {i:Nat} {rest:List Oper} {g:List LE} {oo:Oper} {m:Mem} {m':Mem} {t:List PV} {t':List PV} (h_m:m=m') (h_t:t=t'):pgd P wd base fl ops KD i rest g oo m t=pgd P wd base fl ops KD i rest g oo m' t':=by subst h_m h_t; rfl
@[congr] theorem ZrJ {b:Bool} {b':Bool} {y:List PV→Prop} {n:List PV→Prop} {t:List PV} {t':List PV} {i:Nat} (h_b:b=b') (h_t:t=t'):gate2 b y n t i=gate2 b' y n t' i:=by subst h_b h_t; rfl
@[congr] theorem Zso {p:PV} {p':PV} {i:Nat} {t:List PV} {t':List PV} {b:Bool} {y:List PV→Prop} {n:List PV→Prop} (h_p:p=p') (h_t:t=t'):gdV p i t b y n=gdV p' i t' b y n:=by subst h_p h_t; rfl
@[congr] theorem ZsC {d:Option Tmp} {t:List PV} {t':List PV} {b:Bool} {y:List PV→Prop} {n:List PV→Prop} (h_t:t=t'):gd d t b y n=gd d t' b y n:=by subst h_t; rfl
@[congr] theorem ZrL {P:Program} {T:TypeId} {cs:Option (List PV)} {cs':Option (List PV)} {K:PV→Prop} (h_cs:cs=cs'):pLoad P T cs K=pLoad P T cs' K:=by subst h_cs; rfl
@[congr] theorem ZrY {P:Program} {op:BinOp} {T:TypeId} {x:PV} {x':PV} {y:PV} {y':PV} {K:PV→Prop} (h_x:x=x') (h_y:y=y'):pBin P op T x y K=pBin P op T x' y' K:=by subst h_x h_y; rfl
@[congr] theorem Zst {op:UnOp} {x:PV} {x':PV} {K:PV→Prop} (h_x:x=x'):pUn op x K=pUn op x' K:=by subst h_x; rfl
@[congr] theorem Zq9 {P:Program} {m:Mem} {m':Mem} {T:TypeId} {U:TypeId} {x:PV} {x':PV} {K:PV→Prop} (h_m:m=m') (h_x:x=x'):pConvM P m T U x K=pConvM P m' T U x' K:=by subst h_m h_x; rfl
@[congr] theorem Zrc {P:Program} {m:Mem} {m':Mem} {T:TypeId} {x:PV} {x':PV} {lo:Option PV} {lo':Option PV} {hi:Option PV} {hi':Option PV} {K:PV→Prop} (h_m:m=m') (h_x:x=x') (h_lo:lo=lo') (h_hi:hi=hi'):pSlice P m T x lo hi K=pSlice P m' T x' lo' hi' K:=by subst h_m h_x h_lo h_hi; rfl
@[congr] theorem ZoF {P:Program} {m:Mem} {m':Mem} {T:TypeId} {x:PV} {x':PV} {i:Nat} {K:PV→Prop} (h_m:m=m') (h_x:x=x'):pFieldAddr P m T x i K=pFieldAddr P m' T x' i K:=by subst h_m h_x; rfl
@[congr] theorem Zra {P:Program} {T:TypeId} {x:PV} {x':PV} {i:Nat} {K:PV→Prop} (h_x:x=x'):pField P T x i K=pField P T x' i K:=by subst h_x; rfl
@[congr] theorem ZoG {P:Program} {m:Mem} {m':Mem} {T:TypeId} {x:PV} {x':PV} {y:PV} {y':PV} {K:PV→Prop} (h_m:m=m') (h_x:x=x') (h_y:y=y'):pIndexAddr P m T x y K=pIndexAddr P m' T x' y' K:=by subst h_m h_x h_y; rfl
@[congr] theorem Zrb {P:Program} {T:TypeId} {x:PV} {x':PV} {y:PV} {y':PV} {K:PV→Prop} (h_x:x=x') (h_y:y=y'):pIndex P T x y K=pIndex P T x' y' K:=by subst h_x h_y; rfl
@[congr] theorem Zr1 {i:Nat} {x:PV} {x':PV} {K:PV→Prop} (h_x:x=x'):pExt i x K=pExt i x' K:=by subst h_x; rfl
@[congr] theorem Zq8 {P:Program} {T:TypeId} {ps:List (Nat × PV)} {ps':List (Nat × PV)} {K:PV→Prop} (h_ps:ps=ps'):pBuild P T ps K=pBuild P T ps' K:=by subst h_ps; rfl
@[congr] theorem Zr2 {P:Program} {m:Mem} {m':Mem} {T:TypeId} {x:PV} {x':PV} {K:PV→Prop} (h_m:m=m') (h_x:x=x'):pLen P m T x K=pLen P m' T x' K:=by subst h_m h_x; rfl
@[congr] theorem Zq0 {b:Bool} {ps:List PV} {ps':List PV} {K:PV→Prop} (h_ps:ps=ps'):pMinMax b ps K=pMinMax b ps' K:=by subst h_ps; rfl
@[congr] theorem ZrX {ov:Option Value} {ov':Option Value} {K:PV→Prop} (h_ov:ov=ov'):optK ov K=optK ov' K:=by subst h_ov; rfl
@[congr] theorem Zsn {P:Program} {op:BinOp} {T:TypeId} {cs:List PV} {cs':List PV} {ds:List PV} {ds':List PV} {K:PV→Prop} (h_cs:cs=cs') (h_ds:ds=ds'):eqK P op T cs ds K=eqK P op T cs' ds' K:=by subst h_cs h_ds; rfl
@[congr] theorem Zr3 {m:Mem} {m':Mem} {x:PV} {x':PV} {K:PV→Prop} (h_m:m=m') (h_x:x=x'):pNil m x K=pNil m' x' K:=by subst h_m h_x; rfl
@[congr] theorem ZrN {x:PV} {x':PV} {y:PV} {y':PV} {z:PV} {z':PV} {K:PV→Prop} (h_x:x=x') (h_y:y=y') (h_z:z=z'):pPick x y z K=pPick x' y' z' K:=by subst h_x h_y h_z; rfl
@[congr] theorem ZrK {P:Program} {io:Bool} {wd:Nat} {nu:Nat} {nu':Nat} {f:FuncId} {ps:List PV} {ps':List PV} {m:Mem} {m':Mem} {KA:PV→Mem→Prop} (h_ps:ps=ps') (h_m:m=m') (h_nu:nu=nu'):pCall P io wd nu f ps m KA=pCall P io wd nu' f ps' m' KA:=by subst h_ps h_m h_nu; rfl
@[congr] theorem ZrZ {nu:Nat} {nu':Nat} {m:Mem} {m':Mem} {T:TypeId} {ocs:Option (List PV)} {ocs':Option (List PV)} {KA:PV→Mem→Prop} (h_nu:nu=nu') (h_m:m=m') (h_ocs:ocs=ocs'):pBox nu m T ocs KA=pBox nu' m' T ocs' KA:=by subst h_nu h_m h_ocs; rfl
@[congr] theorem Zoy {P:Program} {nu:Nat} {nu':Nat} {m:Mem} {m':Mem} {T:TypeId} {k:Nat} {ps:List (Nat × PV)} {ps':List (Nat × PV)} {KA:PV→Mem→Prop} (h_nu:nu=nu') (h_m:m=m') (h_ps:ps=ps'):pBuildSlice P nu m T k ps KA=pBuildSlice P nu' m' T k ps' KA:=by subst h_nu h_m h_ps; rfl
@[congr] theorem ZrM {P:Program} {nu:Nat} {nu':Nat} {m:Mem} {m':Mem} {T:TypeId} {x:PV} {x':PV} {y:PV} {y':PV} {KA:PV→Mem→Prop} (h_nu:nu=nu') (h_m:m=m') (h_x:x=x') (h_y:y=y'):pMake P nu m T x y KA=pMake P nu' m' T x' y' KA:=by subst h_nu h_m h_x h_y; rfl
@[congr] theorem Zrd {P:Program} {m:Mem} {m':Mem} {T:TypeId} {x:PV} {x':PV} {y:PV} {y':PV} {KA:PV→Mem→Prop} (h_m:m=m') (h_x:x=x') (h_y:y=y'):pStore P m T x y KA=pStore P m' T x' y' KA:=by subst h_m h_x h_y; rfl
@[congr] theorem ZqZ {P:Program} {nu:Nat} {nu':Nat} {m:Mem} {m':Mem} {T:TypeId} {x:PV} {x':PV} {y:PV} {y':PV} {KA:PV→Mem→Prop} (h_nu:nu=nu') (h_m:m=m') (h_x:x=x') (h_y:y=y'):pAppend P nu m T x y KA=pAppend P nu' m' T x' y' KA:=by subst h_nu h_m h_x h_y; rfl
@[congr] theorem Zr0 {P:Program} {io:Bool} {wd:Nat} {nu:Nat} {nu':Nat} {p:PV} {p':PV} {ps:List PV} {ps':List PV} {m:Mem} {m':Mem} {KA:PV→Mem→Prop} (h_nu:nu=nu') (h_p:p=p') (h_ps:ps=ps') (h_m:m=m'):pDyn P io wd nu p ps m KA=pDyn P io wd nu' p' ps' m' KA:=by subst h_nu h_p h_ps h_m; rfl
@[congr] theorem Zr4 {P:Program} {io:Bool} {wd:Nat} {nu:Nat} {nu':Nat} {o:Op} {t:List PV} {t':List PV} {m:Mem} {m':Mem} {KA:PV→Mem→Prop} (h_nu:nu=nu') (h_t:t=t') (h_m:m=m'):popA P io wd nu o t m KA=popA P io wd nu' o t' m' KA:=by subst h_nu h_t h_m; rfl
@[congr] theorem ZrW {ops2:List Oper} {K:List PV→Mem→Prop} {g:List LE} {t:List PV} {t':List PV} {m:Mem} {m':Mem} (h_t:t=t') (h_m:m=m'):endD ops2 K g t m=endD ops2 K g t' m':=by subst h_t h_m; rfl
@[congr] theorem Zsw {P:Program} {n0:Nat} {code:Code} {Q:Exit→List PV→Mem→Prop} {t:List PV} {t':List PV} {m:Mem} {m':Mem} (h_t:t=t') (h_m:m=m'):pwp P n0 code Q t m=pwp P n0 code Q t' m':=by subst h_t h_m; rfl
@[congr] theorem ZrP {K:List PV→Mem→Prop} {Q:Exit→List PV→Mem→Prop} {e:Exit} {e':Exit} {t:List PV} {t':List PV} {m:Mem} {m':Mem} (h_t:t=t') (h_m:m=m') (h_e:e=e'):thenP K Q e t m=thenP K Q e' t' m':=by subst h_t h_m h_e; rfl
@[congr] theorem Zq7 {id:Nat} {Q:Exit→List PV→Mem→Prop} {e:Exit} {e':Exit} {t:List PV} {t':List PV} {m:Mem} {m':Mem} (h_t:t=t') (h_m:m=m') (h_e:e=e'):blockP id Q e t m=blockP id Q e' t' m':=by subst h_t h_m h_e; rfl
class Zbe (α:Type) where
 c:α→List PV
instance:Zbe Int:=⟨cInt⟩
instance:Zbe ByteArray:=⟨cStr⟩
instance:Zbe Bool:=⟨cBool⟩
section
variable {P:Program} {n0:Nat} {Q:Exit→List PV→Mem→Prop} {t t':List PV} {m m':Mem} {K:List PV→Mem→Prop} {KR:PV→Prop} {KA:PV→Mem→Prop}
theorem HexL {σ ο β:Type} {s:σ} {F:σ→Option β} {K:ο→Option β} {r:β} (h:(some (Sum.inl s)).bind (selim F K)=some r):F s=some r:=h
theorem bexR {σ ο β:Type} {o:ο} {F:σ→Option β} {K:ο→Option β}:(some (Sum.inr o)).bind (selim F K)=K o:=nrfl rfl
theorem bsr {α β γ δ:Type} {o:β} {F:α→Option γ} {G:β→Option γ} {K:γ→Option δ}:(selim F G (Sum.inr o)).bind K=(G o).bind K:=nrfl rfl
theorem bsl {α β γ δ:Type} {o:α} {F:α→Option γ} {G:β→Option γ} {K:γ→Option δ}:(selim F G (Sum.inl o)).bind K=(F o).bind K:=nrfl rfl
theorem Hc1k {α β:Type} {G:Prop} {b:Bool} {A B:Option α} {K:α→Option β} {r:β} (h:(cond b A B).bind K=some r) (hb:b=true) (k:A.bind K=some r→G):G:=k (Hc1 h hb)
theorem Hc2k {α β:Type} {G:Prop} {b:Bool} {A B:Option α} {K:α→Option β} {r:β} (h:(cond b A B).bind K=some r) (hb:b=false) (k:B.bind K=some r→G):G:=k (Hc2 h hb)
theorem Zri {c:Bool} {y n:List PV→Prop} {i:Nat} (h:gate2 c y n t i):gate2 c y n t i:=h
theorem idxS {T:TypeId} {es:List (List PV)} {i:PV} (h:pIndexAddr P m T (.sl es) i KR):pIndexAddr P m T (.sl es) i KR:=h
def mkOk (n bytes:Int):Bool:=decide (0≤n∧n≤1099511627776∧bytes*n≤140737488355328)
theorem mkS {T:TypeId} {ν:Nat} {x y:PV} (h:pMake P ν m T x y KA):pMake P ν m T x y KA:=h
theorem ZpX {T e k ν:Nat} {n b:Int} {zc:List PV} (hok:mkOk n b=true) (hu:P.underlying T=some (.slice e)) (hz:pz P e=some zc) (hb:(P.bytesOf e:Int)=b) (hc:P.cellsOf e=k) (hzl:zc.length=k) (hp:decide (0<k)=true) (hK:KA (.ms ν) (mput m ν ⟨e,k,List.replicate n.toNat zc⟩)):pMake P ν m T (vi n) (vi n) KA:=by
 subst hb hc
 have hok':=of_decide_eq_true hok
 simp only [pMake,hu,hz]
 exact ⟨trivial,hok'.1,of_decide_eq_true hp,hzl,hok'.2.1,hok'.2.2,hK⟩
theorem ZfY {ρ:Nat→Option Nat}:∀ {cs:List PV},(∀ q∈cs,isC q=true)→cutL ρ m m' cs cs
 | [],_=>trivial
 | c::cs,h=>⟨.c c (h c List.mem_cons_self),ZfY fun q hq=>h q (List.mem_cons_of_mem _ hq)⟩
theorem Zlo {α:Type} {f:α→List PV} [hf:PlainC f] {ρ:Nat→Option Nat}:∀ {xs:List α},cutE ρ m m' (xs.map f) (xs.map f)
 | []=>trivial
 | x::xs=>⟨ZfY (hf.h x),Zlo⟩
theorem Zfm {α:Type} {f:α→List PV} [hf:PlainC f] {ρ:Nat→Option Nat} {cs:List PV} {x:α} (h:cutL ρ m m' cs (f x)):∀ {xs:List α} {n:Nat},cutE ρ m m' ((xs.map f).set n cs) ((xs.set n x).map f)
 | [],_=>trivial
 | y::ys,0=>⟨h,Zlo⟩
 | y::ys,n+1=>⟨ZfY (hf.h y),Zfm h⟩
theorem Zlp {α:Type} {f:α→List PV} {ρ:Nat→Option Nat} {cs:List PV} {x:α} (h:cutL ρ m m' cs (f x)):∀ {n:Nat},cutE ρ m m' (List.replicate n cs) ((List.replicate n x).map f)
 | 0=>trivial
 | n+1=>⟨h,Zlp h⟩
theorem ZfX {α:Type} {f:α→List PV} [hf:PlainC f] {ρ:Nat→Option Nat} {cs:List PV} {x:α} (h:cutL ρ m m' cs (f x)):∀ {xs:List α},cutE ρ m m' (xs.map f++[cs]) ((xs++[x]).map f)
 | []=>⟨h,trivial⟩
 | y::ys=>⟨ZfY (hf.h y),ZfX h⟩
theorem Zg3 {α:Type} {f:α→List PV} [PlainC f] {ρ:Nat→Option Nat} {T k n:Nat} {cs:List PV} {x:α} {xs:List α} (h:cutL ρ m m' cs (f x)):cutF ρ m m' ⟨T,k,(xs.map f).set n cs⟩ ⟨T,k,(xs.set n x).map f⟩:=⟨⟨rfl,rfl,.inr (Zfm h)⟩,fun _ _=>cutK_n rfl⟩
theorem Zlk {α:Type} {f:α→List PV} {ρ:Nat→Option Nat} {T k n:Nat} {cs:List PV} {x:α} (h:cutL ρ m m' cs (f x)):cutF ρ m m' ⟨T,k,List.replicate n cs⟩ ⟨T,k,(List.replicate n x).map f⟩:=⟨⟨rfl,rfl,.inr (Zlp h)⟩,fun _ _=>cutK_n rfl⟩
theorem Zrf {ρ:Nat→Option Nat} {T k:Nat} {es es':List (List PV)} (h:cutE ρ m m' es es'):cutF ρ m m' ⟨T,k,es⟩ ⟨T,k,es'⟩:=⟨⟨rfl,rfl,.inr h⟩,fun _ _=>cutK_n rfl⟩
theorem ZpC {ρ:Nat→Option Nat}:cutE ρ m m' [] []:=trivial
theorem ZpB {ρ:Nat→Option Nat} {cs ds:List PV} {es es':List (List PV)} (h:cutL ρ m m' cs ds) (h':cutE ρ m m' es es'):cutE ρ m m' (cs::es) (ds::es'):=⟨h,h'⟩
theorem Zlj {ρ:Nat→Option Nat} {T:TK} {k:Nat}:cutF ρ m m' ⟨T,k,[]⟩ ⟨T,k,[]⟩:=⟨⟨rfl,rfl,.inr trivial⟩,fun _ _=>cutK_same⟩
theorem Zll {ρ:Nat→Option Nat} {T k:Nat} {a b c d:List PV} {es es':List (List PV)} (h:cutE ρ m m' (a::b::es) (c::d::es')):cutF ρ m m' ⟨T,k,a::b::es⟩ ⟨T,k,c::d::es'⟩:=Zrf h
theorem Zjl {α:Type} {f:α→List PV} [PlainC f] {ρ:Nat→Option Nat} {T k:Nat} {cs:List PV} {x:α} {xs:List α} (h:cutL ρ m m' cs (f x)):cutF ρ m m' ⟨T,k,xs.map f++[cs]⟩ ⟨T,k,(xs++[x]).map f⟩:=⟨⟨rfl,rfl,.inr (ZfX h)⟩,fun _ _=>cutK_n rfl⟩
/-! Keyed rows. -/
def isKd:Option MB→Bool
 | some mb=>mb.T.kd.isSome
 | none=>false
def Zo5 (m:Mem):Bool:=decide ((m.filter isKd).length≤1)
theorem Zim {α:Type} {p:α→Bool}:∀ {l:List α} {i j:Nat} {x y:α},(l.filter p).length≤1→l[i]?=some x→l[j]?=some y→p x=true→p y=true→i=j
 | [],i,j,x,y,_,h1,_,_,_=>by simp at h1
 | a::l,i,j,x,y,h,h1,h2,hx,hy=>by
  cases hp:p a with
  | false=>
   rw [List.filter_cons_of_neg (by simp [hp])] at h
   cases i with
   | zero=>simp at h1; subst h1; rw [hp] at hx; cases hx
   | succ i=>
    cases j with
    | zero=>simp at h2; subst h2; rw [hp] at hy; cases hy
    | succ j=>exact congrArg Nat.succ (Zim (l:=l) (p:=p) h (x:=x) (y:=y) (by simpa using h1) (by simpa using h2) hx hy)
  | true=>
   rw [List.filter_cons_of_pos hp,List.length_cons] at h
   have h0:l.filter p=[]:=List.length_eq_zero_iff.1 (by omega)
   have no:∀ {k:Nat} {z:α},l[k]?=some z→p z=true→False:=fun {k z} hk hz=>by
    have hm:z∈l.filter p:=List.mem_filter.2 ⟨List.mem_of_getElem? hk,hz⟩
    rw [h0] at hm
    cases hm
   cases i with
   | succ i=>exact (no (by simpa using h1) hx).elim
   | zero=>
    cases j with
    | succ j=>exact (no (by simpa using h2) hy).elim
    | zero=>rfl
def msAt:Nat→List PV→Option (Nat × Nat)
 | _,[]=>none
 | j,.ms l::cs=>if cs.all noMs=true then some (l,j) else none
 | _,.ss ..::_=>none
 | j,_::cs=>msAt (j+1) cs
theorem Zo1 {cs:List PV} {o l j:Nat} (h:msAt o cs=some (l,j)):∃ j0,j=o+j0∧cs[j0]?=some (.ms l)∧∀ (i:Nat) (p:PV),cs[i]?=some p→i=j0∨noMs p=true:=by
 induction cs generalizing o with
 | nil=>cases h
 | cons p cs ih=>
  cases p with
  | ms k=>
   simp only [msAt] at h
   split at h
   ·rename_i hc
    simp only [Option.some.injEq,Prod.mk.injEq] at h
    obtain ⟨rfl,rfl⟩:=h
    refine ⟨0,rfl,rfl,fun i p hp=>?_⟩
    cases i with
    | zero=>exact .inl rfl
    | succ i=>exact .inr (List.all_eq_true.1 hc p (List.mem_of_getElem? (by simpa using hp)))
   ·cases h
  | ss a b c=>simp [msAt] at h
  | _=>
   have h':msAt (o+1) cs=some (l,j):=h
   obtain ⟨j0,e,h1,h2⟩:=ih h'
   refine ⟨j0+1,by omega,by simpa using h1,fun i q hq=>?_⟩
   cases i with
   | zero=>
    right
    simp only [List.getElem?_cons_zero,Option.some.injEq] at hq
    subst hq
    rfl
   | succ i=>
    rcases h2 i q (by simpa using hq) with h | h
    ·left; omega
    ·exact .inr h
theorem ZnS {p:PV} (h:isC p=true):noMs p=true:=by
 cases p with
 | ms=>cases h
 | ss=>cases h
 | _=>rfl
theorem Zm8 {ρ:Nat→Option Nat} {t t':TypeId} {k k':Nat} {es es':List (List PV)} {cs:List PV} {n l j:Nat} (h:cutE ρ m m' es es') (hn:es[n]?=some cs) (ho:∀ (i:Nat) (ds:List PV),es[i]?=some ds→i≠n→∀ p∈ds,noMs p=true)
 (hm:msAt 0 cs=some (l,j)) (h1:Zo5 m=true) {T2:TK} {k2:Nat} {es2:List (List PV)} (hl:look m l=some ⟨T2,k2,es2⟩) (ht:T2.t=t') {k0:Nat} (hk0:m[k0]?=some (some ⟨⟨t,some t'⟩,k,es⟩)):cutK ρ m m' ⟨⟨t,some t'⟩,k,es⟩ ⟨⟨t,some t'⟩,k',es'⟩:=by
 obtain ⟨j0,ej,g1,g2⟩:=Zo1 hm
 rw [Nat.zero_add] at ej
 subst ej
 intro T1 hT i ds j1 e hi hj hne
 have hT':some t'=some T1:=hT
 obtain ⟨cs1,c1,c2⟩:=(cutE_get h).2 i ds hi
 obtain ⟨p,p1,p2⟩:=(cutL_get c2).2 j1 _ hj
 by_cases hms:noMs p=true
 ·have:=cutC_sl p2 hms hne
  subst this
  exact .inl ⟨hT,cs1,c1,p1⟩
 ·right
  have hin:i=n:=by
   rcases Nat.decEq i n with h | h
   ·exact absurd (ho i cs1 c1 h p (List.mem_of_getElem? p1)) hms
   ·exact h
  subst hin
  rw [hn] at c1
  obtain rfl:=Option.some.inj c1
  have hj1:j1=j:=by
   rcases g2 j1 p p1 with h | h
   ·exact h
   ·exact absurd h hms
  subst hj1
  rw [g1] at p1
  obtain rfl:=Option.some.inj p1
  have huni:∀ q',AdAt m l q'→q'=(t,i,j1):=by
   rintro q' ⟨l',mb',T',i',cs',j',a1,a2,a3,a4,rfl⟩
   have e:l'=k0:=Zim (p:=isKd) (of_decide_eq_true h1) a1 hk0 (by simp [isKd,a2]) rfl
   subst e
   rw [hk0] at a1
   obtain rfl:(⟨⟨t,some t'⟩,k,es⟩:MB)=mb':=by simpa using a1
   have hi':i'=i:=by
    rcases Nat.decEq i' i with h | h
    ·have:=ho i' cs' a3 h _ (List.mem_of_getElem? a4); cases this
    ·exact h
   subst hi'
   rw [hn] at a3
   obtain rfl:=Option.some.inj a3
   rcases g2 j' _ a4 with h | h
   ·rw [h]
   ·cases h
  generalize hq:PV.sl e=q at p2
  cases p2 with
  | fms _ mk hm2 hc hd=>
   have:=look_iff.1 hl
   rw [hm2] at this
   obtain rfl:mk=⟨T2,k2,es2⟩:=by simpa using this
   refine ⟨_,l,_,hn,g1,⟨⟨k0,_,t',i,_,j1,hk0,rfl,hn,g1,rfl⟩,huni⟩,hm2,?_,?_,hd⟩
   ·rw [← Option.some.inj hT']; exact ht
   ·simpa using hq.symm
  | un=>cases hq
  | c _ h=>cases h
  | ms=>cases hq
theorem Zik {α:Type} {f:α→List PV} [hf:PlainC f] {ρ:Nat→Option Nat} {t t':TypeId} {k l j k2:Nat} {T2:TK} {es2:List (List PV)} {cs:List PV} {x:α} {xs:List α} (hm:msAt 0 cs=some (l,j)) (h1:Zo5 m=true) (hl:look m l=some ⟨T2,k2,es2⟩) (ht:T2.t=t') (h:cutL ρ m m' cs (f x)):
 cutF ρ m m' ⟨⟨t,some t'⟩,k,xs.map f++[cs]⟩ ⟨⟨t,some t'⟩,k,(xs++[x]).map f⟩:=by
 refine ⟨⟨rfl,rfl,.inr (ZfX h)⟩,fun k0 hk0=>Zm8 (n:=xs.length) (cs:=cs) (ZfX h) (by simp) (fun i ds hi hne p hp=>?_) hm h1 hl ht hk0⟩
 rcases Nat.lt_or_ge i xs.length with hlt | hge
 ·rw [List.getElem?_append_left (by simpa using hlt),List.getElem?_map] at hi
  obtain ⟨y,_,rfl⟩:=Option.map_eq_some_iff.1 hi
  exact ZnS (hf.h y p hp)
 ·have:=(List.getElem?_eq_some_iff.1 hi).1
  simp at this
  omega
theorem Zjj {α:Type} {f:α→List PV} [hf:PlainC f] {ρ:Nat→Option Nat} {t t':TypeId} {k l j k2 n:Nat} {T2:TK} {es2:List (List PV)} {cs:List PV} {x:α} {xs:List α} (hn:n<xs.length) (hm:msAt 0 cs=some (l,j)) (h1:Zo5 m=true) (hl:look m l=some ⟨T2,k2,es2⟩) (ht:T2.t=t') (h:cutL ρ m m' cs (f x)):
 cutF ρ m m' ⟨⟨t,some t'⟩,k,(xs.map f).set n cs⟩ ⟨⟨t,some t'⟩,k,(xs.set n x).map f⟩:=by
 refine ⟨⟨rfl,rfl,.inr (Zfm h)⟩,fun k0 hk0=>Zm8 (n:=n) (cs:=cs) (Zfm h) (List.getElem?_set_self (by simpa using hn)) (fun i ds hi hne p hp=>?_) hm h1 hl ht hk0⟩
 rw [List.getElem?_set_ne (Ne.symm hne),List.getElem?_map] at hi
 obtain ⟨y,_,rfl⟩:=Option.map_eq_some_iff.1 hi
 exact ZnS (hf.h y p hp)
theorem Zjk {α:Type} {f:α→List PV} [hf:PlainC f] {ρ:Nat→Option Nat} {T:TK} {k n:Nat} {cs:List PV} {x:α} {xs:List α} (hn:cs.all noMs=true) (h:cutL ρ m m' cs (f x)):cutF ρ m m' ⟨T,k,(xs.map f).set n cs⟩ ⟨T,k,(xs.set n x).map f⟩:=by
 refine ⟨⟨rfl,rfl,.inr (Zfm h)⟩,fun _ _=>cutK_e (Zfm h) fun ds hds p hp=>?_⟩
 rcases List.mem_or_eq_of_mem_set hds with hds | rfl
 ·obtain ⟨y,_,rfl⟩:=List.mem_map.1 hds
  exact ZnS (hf.h y p hp)
 ·exact List.all_eq_true.1 hn p hp
theorem idxM {T:TypeId} {l:Nat} {i:PV} (h:pIndexAddr P m T (.ms l) i KR):pIndexAddr P m T (.ms l) i KR:=h
theorem Zns {α:Type} [Zbe α] {xs:List α} {x:α} {T:TypeId} {T':TK} {l k':Nat} {i:Int} {k:IntKind} (h:getI xs i=some x) (hm:look m l=some ⟨T',k',xs.map Zbe.c⟩) (hp:0<elemK P T) (hk:k'=elemK P T) (hK:KR (.be l i.toNat 0)):pIndexAddr P m T (.ms l) (.v (.int k i)) KR:=idx_ms h hm hp hk hK
theorem ZfA {α:Type} {f:α→List PV} {xs:List α} {x:α} {i:Int} (h:getI xs i=some x):(xs.map f)[i.toNat]?=some (f x):=by
 rw [List.getElem?_map,(getI_some h).2]; rfl
theorem Zj5 {α:Type} [Zbe α] {xs:List α} {T T':TypeId} {r k:Nat} {lo hi:Option PV} {l h:Int} (hok:slOk l h xs.length=true) (hm:look m r=some ⟨T',k,xs.map Zbe.c⟩) (hlo:pBd lo 0=some l) (hhi:pBd hi xs.length=some h) (hp:0<elemK P T) (hk:k=elemK P T) (hK:KR (.ss r l.toNat h.toNat)):pSlice P m T (.ms r) lo hi KR:=by
 obtain ⟨e,hu,he⟩:=elemK_of hp
 rw [he] at hp hk
 have hok':=of_decide_eq_true hok
 simp only [pSlice,hu,look_live,hm,List.length_map,hlo,hhi]
 exact ⟨hok'.1,hok'.2.1,hok'.2.2,hp,hk,hK⟩
theorem Zrz {α:Type} [Zbe α] {xs:List α} {T':TypeId} {r k:Nat} {a b:Int} (hm:look m r=some ⟨T',k,xs.map Zbe.c⟩):srcOf m (.ss r a.toNat b.toNat)=some ((subL xs a b).map Zbe.c):=by
 have h:=look_iff.1 hm
 simp only [srcOf,h,drop_mp,take_mp,subL]
theorem ZiZ {α:Type} [Zbe α] {xs:List α} {T':TypeId} {r k A B:Nat} {a b:Int} (hm:look m r=some ⟨T',k,xs.map Zbe.c⟩) (hA:A=a.toNat) (hB:B=b.toNat):srcOf m (.ss r A B)=some ((subL xs a b).map Zbe.c):=by subst hA hB; exact Zrz hm
theorem ZoM {cs:List PV} (h:cs.all isC=true):goodV false (.ag cs):=fun c hc=>goodC_of (List.all_eq_true.1 h c hc)
theorem ZpR {cs:List PV} (h:cs.all isF=true):goodV true (.ag cs):=fun c hc=>goodF_of (List.all_eq_true.1 h c hc)
theorem ZoN {ps:List PV} (h:ps.all isCA=true):goodV false (.tu ps):=fun c hc=>(isCA_ren (σ:=id) (List.all_eq_true.1 h c hc)).2.1
theorem idxB {T:TypeId} {s:ByteArray} {i:PV} (h:pIndex P T (.v (.string s)) i KR):pIndex P T (.v (.string s)) i KR:=h
theorem slcS {T:TypeId} {x:PV} {lo hi:Option PV} (h:pSlice P m T x lo hi KR):pSlice P m T x lo hi KR:=h
theorem appS {T:TypeId} {ν:Nat} {x y:PV} (h:pAppend P ν m T x y KA):pAppend P ν m T x y KA:=h
theorem Zq6 {f:FuncId} {ps:List PV} {io:Bool} {wd ν:Nat} (h:pCall P io wd ν f ps m KA):pCall P io wd ν f ps m KA:=h
theorem optS {o:Option Value} (h:optK o KR):optK o KR:=h
theorem Zro {c:Code} (h:pwp P n0 (.loop c) Q t m):pwp P n0 (.loop c) Q t m:=h
theorem cutS (h:Cuts n0 t m t' m'):Cuts n0 t m t' m':=h
theorem all_nil {α:Type} {p:α→Prop}:(∀ x∈([]:List α),p x)=True:=by simp
theorem all_cons {α:Type} {p:α→Prop} {a:α} {as_:List α}:(∀ x∈a::as_,p x)=(p a∧∀ x∈as_,p x):=by simp
theorem Zrr {cs:List PV}:rdp m (.rp cs)=some cs:=nrfl rfl
theorem ZmR {α:Type} [Zbe α] {xs ys:List α} {T:TypeId} {ν l e k n b:Nat} {x:PV} {zc:List PV} (hok:appOk (xs.length+ys.length) b=true) (hu:P.underlying T=some (.slice e)) (hz:pz P e=some zc) (hb:P.bytesOf e=b) (hc:P.cellsOf e=n) (hl:look m l=some ⟨e,k,xs.map Zbe.c⟩) (hsrc:srcOf m x=some (ys.map Zbe.c))
 (hzl:zc.length=n) (hp:decide (0<n)=true) (hf:∀ x:α,(Zbe.c x).length=n) (hk:k=n) (hK:KA (.ms ν) (mput (m.set l none) ν ⟨e,k,(xs++ys).map Zbe.c⟩)):pAppend P ν m T (.ms l) x KA:=by
 subst hb hc
 exact app_ms hok hu hz hsrc hl hzl (of_decide_eq_true hp) hf hk hK
theorem ZmQ {α:Type} [Zbe α] {xs ys:List α} {cs:List PV} {T:TypeId} {ν l e k n b t':Nat} {x:PV} {zc:List PV} (hok:appOk (xs.length+ys.length) b=true) (hy:ys.length=1) (hu:P.underlying T=some (.slice e)) (hz:pz P e=some zc) (hb:P.bytesOf e=b) (hc:P.cellsOf e=n) (hl:look m l=some ⟨⟨e,some t'⟩,k,xs.map Zbe.c⟩) (hsrc:srcOf m x=some [cs])
 (hst:cs.all noSl=true) (hcl:cs.length=n) (hzl:zc.length=n) (hp:decide (0<n)=true) (hk:k=n) (hK:KA (.ms ν) (mput (m.set l none) ν ⟨⟨e,some t'⟩,k,xs.map Zbe.c++[cs]⟩)):pAppend P ν m T (.ms l) x KA:=by
 subst hk
 subst hb
 have hok':=of_decide_eq_true hok
 rw [hy] at hok'
 simp only [pAppend,hu,hz,hsrc,look_live,hl,List.length_map,List.length_cons,List.length_nil,hc]
 refine ⟨hzl,of_decide_eq_true hp,fun ds hds=>?_,trivial,trivial,hok'.1,hok'.2,?_⟩
 ·rw [List.mem_singleton] at hds
  subst hds; exact hcl
 ·have e:(⟨e,some t'⟩:TK).sts [cs]=⟨e,some t'⟩:=by
   unfold TK.sts TK.stb
   simp only [List.all_cons,List.all_nil,Bool.and_true,hst,if_true]
  rw [e]; exact hK
theorem ZmS {α:Type} [Zbe α] {ys:List α} {T:TypeId} {ν e n b:Nat} {x:PV} {zc:List PV} (hok:appOk ys.length b=true) (hu:P.underlying T=some (.slice e)) (hz:pz P e=some zc) (hb:P.bytesOf e=b) (hc:P.cellsOf e=n) (hsrc:srcOf m x=some (ys.map Zbe.c))
 (hzl:zc.length=n) (hp:decide (0<n)=true) (hf:∀ x:α,(Zbe.c x).length=n) (hK:KA (.ms ν) (mput m ν ⟨e,n,ys.map Zbe.c⟩)):pAppend P ν m T (.v (.slice none 0 0)) x KA:=by
 subst hb hc
 exact app_nl hok hu hz hsrc hzl (of_decide_eq_true hp) hf hK
theorem Zjw {b:Bool}:∀ mb,some mb∈([]:Mem)→∀ cs∈mb.es,∀ p∈cs,goodC b p:=by intro mb h; cases h
theorem Zfz {α:Type} {f:α→List PV} [PlainC f] {T:TK} {k:Nat} {xs:List α}:∀ mb,some mb∈([some ⟨T,k,xs.map f⟩]:Mem)→∀ cs∈mb.es,∀ p∈cs,goodC false p:=by
 intro mb h
 simp only [List.mem_singleton,Option.some.injEq] at h
 subst h
 exact of_eq_true goodD_map
theorem Zgy {α:Type} {f:α→List PV} [FlatC f] {T:TK} {k:Nat} {xs:List α}:∀ mb,some mb∈([some ⟨T,k,xs.map f⟩]:Mem)→∀ cs∈mb.es,∀ p∈cs,goodC true p:=by
 intro mb h
 simp only [List.mem_singleton,Option.some.injEq] at h
 subst h
 exact of_eq_true goodT_map
theorem hm_c {x:Option MB} {m:Mem} {b:Bool} (h1:∀ mb,some mb∈([x]:Mem)→∀ cs∈mb.es,∀ p∈cs,goodC b p) (h2:∀ mb,some mb∈m→∀ cs∈mb.es,∀ p∈cs,goodC b p):∀ mb,some mb∈(x::m)→∀ cs∈mb.es,∀ p∈cs,goodC b p:=by
 intro mb h
 rcases List.mem_cons.1 h with h | h
 ·exact h1 mb (by simp [h])
 ·exact h2 mb h
end
theorem Zsf {n:Nat} {qs:List PV}:(TK.of n).st qs=TK.of n:=nrfl rfl
theorem Zse {t t':TypeId} {x:Value}:(TK.mk t (some t')).st [.v x]=TK.mk t (some t'):=nrfl rfl
theorem ZrA {n:Nat} {es:List (List PV)}:(TK.of n).sts es=TK.of n:=nrfl rfl
attribute [go_sem] Zsf Zse ZrA U_z U_s Zrr set_z set_s getD_z getD_s ops_z ops_s ops_a nxt_app atM_app rgo_app pgo_app gate2_tt gate2_ff pops_nil pops_go pops_gd nxd_app popsD_nil popsD_go popsD_gd rgd_app rge_app nxe_app ioAt_nil ioAt_cons popI_call pgd_app gd_some gd_none gdV_tt gdV_ff gdV_ud putP_some putP_none evP_tmp evP_int evP_bool evP_str evP_sl evP_ptr evP_func popA_move popA_assign pPick_t pPick_f popA_pick popA_load popA_nilCheck popA_binOp popA_unOp popA_convert popA_slice popA_fieldAddr popA_field popA_indexAddr popA_index popA_extract popA_build popA_makeFunc popA_len popA_min popA_max popA_alloc popA_box popA_buildSlice popA_makeSlice popA_store popA_append popA_call popA_dyn optK_some rdp_be look_z look_s mput_z mput_s mput_n0 mput_ns mset_z mset_s setR_z setR_e setR_s rapp_z rapp_s sig_n sig_z sig_s renEs_map renEs_nil renEs_cons rowQ_map live_look drop_mp take_mp pBin binV pUn pFieldAddr pField pExt pLen pMinMax pLoad aggd pBox pc pStore pNil thenP_normal blockP_normal thenP_exit thenP_ret blockP_exit blockP_ret Option.bind_some List.length_map if_true if_false Bool.false_eq_true List.map_cons List.map_nil List.toList_toArray beq_self_eq_true ite_self Int.toNat_natCast true_and and_true List.length_nil List.nil_append List.append_nil Nat.zero_add List.drop_zero List.drop_succ_cons List.take_zero List.take_succ_cons List.length_cons List.cons_append Option.map_some List.replicate_zero Bool.not_true Bool.not_false renV renA renC ren1 putNew renMB pPick ZkL pConvM pBd Option.map_none pBuild Zh5 pBuildSlice Zgv Zh9 all_cons all_nil Nat.zero_lt_succ Nat.lt_add_one and_self
theorem Zc {n:Int} (h:-9223372036854775808≤n∧n≤9223372036854775807):w64 n=n:=IntWalk.i64_in n h
theorem Zt {i n:Nat} (hi:i<n) (hn:n≤1152921504606846976):w64 ((i:Int)+1)=((i+1:Nat):Int):=by
 rw [Zc (by omega)]; omega
theorem Zd {α:Type} {xs:List α} {i:Nat}:getI xs (i:Int)=xs[i]?:=by
 unfold getI; rw [if_pos (by omega)]; simp
theorem Zfw {b:Bool} (h:b=true):chk b=some ():=by subst h; rfl
def runL {A α ο:Type} (F:Nat→A→α→Option (A ⊕ ο)) (E:A→Option ο):Nat→List α→A→Option ο
 | _,[],a=>E a
 | i,x::xs,a=>(F i a x).bind (selim (fun a'=>runL F E (i+1) xs a') some)
theorem ZjA {A α σ ο:Type} {xs:List α} {body:σ→Option (σ ⊕ ο)} {mk:A→Int→σ} {F:Nat→A→α→Option (A ⊕ ο)} {E:A→Option ο}
 (h1:∀ a (i:Nat) x,xs[i]?=some x→body (mk a i)=(F i a x).bind (selim (fun a'=>some (.inl (mk a' ((i+1:Nat):Int)))) (fun r=>some (.inr r))))
 (h2:∀ a,body (mk a (xs.length:Int))=(E a).bind fun r=>some (.inr r)):
 ∀ (ys:List α) (i:Nat) (N:Nat) (a:A),xs.drop i=ys→i≤xs.length→ys.length<N→iterF body N (mk a i)=runL F E i ys a
 | [],i,0,a,_,_,hN=>by omega
 | [],i,N+1,a,hd,hi,hN=>by
  have:i=xs.length:=by have:=congrArg List.length hd; simp at this; omega
  subst this
  simp only [iterF,runL,h2]
  cases E a <;> rfl
 | y::ys,i,0,a,_,_,hN=>by simp at hN
 | y::ys,i,N+1,a,hd,hi,hN=>by
  have hy:xs[i]?=some y:=by
   have:=congrArg (fun l=>l[0]?) hd
   simpa using this
  have hlt:i<xs.length:=(List.getElem?_eq_some_iff.1 hy).1
  have hd':xs.drop (i+1)=ys:=by
   have:=congrArg (List.drop 1) hd
   simpa [List.drop_drop] using this
  simp only [iterF,runL,h1 a i y hy]
  cases hF:F i a y with
  | none=>rfl
  | some o=>
   cases o with
   | inl a'=>
    show iterF body N (mk a' ((i+1:Nat):Int))=runL F E (i+1) ys a'
    exact ZjA h1 h2 ys (i+1) N a' hd' hlt (by simp at hN; omega)
   | inr r=>rfl
theorem Zf8 {A α σ ο:Type} {xs:List α} {body:σ→Option (σ ⊕ ο)} {N:Nat} (mk:A→Int→σ) (F:Nat→A→α→Option (A ⊕ ο)) (E:A→Option ο)
 (h1:∀ a (i:Nat) x,xs[i]?=some x→body (mk a i)=(F i a x).bind (selim (fun a'=>some (.inl (mk a' ((i+1:Nat):Int)))) (fun r=>some (.inr r))))
 (h2:∀ a,body (mk a (xs.length:Int))=(E a).bind fun r=>some (.inr r)) (hN:xs.length<N) (a:A):iterF body N (mk a 0)=runL F E 0 xs a:=
 ZjA h1 h2 xs 0 N a rfl (Nat.zero_le _) hN
theorem Zj4 {α ο:Type} {o:ο}:∀ (xs:List α) (i:Nat),runL (fun _ (_:Unit) (_:α)=>some (.inl ())) (fun _=>some o) i xs ()=some o
 | [],i=>rfl
 | x::xs,i=>by simp only [runL]; exact Zj4 xs (i+1)
theorem Zg9 {σ ο:Type} {body:σ→Option (σ ⊕ ο)} (I:Nat→σ→Prop) (hI:∀ k s,I k s→∃ o,body s=some o∧∀ s',o=.inl s'→∃ k',k'<k∧I k' s'):∀ (N k:Nat) (s:σ),I k s→k<N→∃ o,iterF body N s=some o
 | 0,k,s,_,hN=>by omega
 | N+1,k,s,h,hN=>by
  obtain ⟨o,hb,hn⟩:=hI k s h
  simp only [iterF,hb]
  cases o with
  | inr r=>exact ⟨r,rfl⟩
  | inl s'=>
   obtain ⟨k',hk,hi⟩:=hn s' rfl
   exact Zg9 I hI N k' s' hi (by omega)
theorem ZlC {ο:Type} {body:Int→Option (Int ⊕ ο)} {n:Nat} (hn:n<NN) (h:∀ i:Nat,i<n→∃ o,body (i:Int)=some o∧∀ s',o=.inl s'→s'=((i+1:Nat):Int)) (he:∃ r,body (n:Int)=some (.inr r)):∃ o,iterF body NN 0=some o:=by
 refine Zg9 (fun k s=>∃ i:Nat,i+k=n∧s=(i:Int)) ?_ NN n 0 ⟨0,by omega,rfl⟩ hn
 rintro k s ⟨i,hi,rfl⟩
 rcases Nat.lt_or_ge i n with hlt | hge
 ·obtain ⟨o,ho,hs⟩:=h i hlt
  exact ⟨o,ho,fun s' e=>⟨k-1,by omega,i+1,by omega,hs s' e⟩⟩
 ·obtain ⟨r,hr⟩:=he
  have:i=n:=by omega
  subst this
  exact ⟨_,hr,fun s' e=>by cases e⟩
theorem ZqO {ο:Type} {x:Option (Int ⊕ ο)} {i:Nat} (e:x=some (.inl ((i+1:Nat):Int))):∃ o,x=some o∧∀ s',o=.inl s'→s'=((i+1:Nat):Int):=⟨_,e,by rintro s' h; cases h; rfl⟩
theorem Zol {ο:Type} {x:Option (Int ⊕ ο)} {i:Nat} {r:ο} (e:x=some (.inr r)):∃ o,x=some o∧∀ s',o=.inl s'→s'=((i+1:Nat):Int):=⟨_,e,by rintro s' h; cases h⟩
theorem ZeM {α ο:Type} {xs:List α} {body:Int→Option (Int ⊕ ο)} {o:ο} (h1:∀ (i:Nat) x,xs[i]?=some x→body (i:Int)=some (.inl ((i+1:Nat):Int))) (h2:body (xs.length:Int)=some (.inr o)) (hN:xs.length<NN):iterF body NN 0=some o:=by
 refine (Zf8 (A:=Unit) (fun _ i=>i) (fun _ _ _=>some (.inl ())) (fun _=>some o) ?_ ?_ hN ()).trans (Zj4 xs 0)
 ·intro a i x hx; rw [h1 i x hx]; rfl
 ·intro a; rw [h2]; rfl
theorem Zfb {α:Type} {xs:List α} {z:α} {body:Int × List α→Option ((Int × List α) ⊕ List α)}
 (h1:∀ (i:Nat) (out:List α) x,xs[i]?=some x→out.length=xs.length→body ((i:Int),out)=some (.inl (((i+1:Nat):Int),out.set i x)))
 (h2:∀ out:List α,body ((xs.length:Int),out)=some (.inr out)) (hN:xs.length<NN):iterF body NN (0,List.replicate xs.length z)=some xs:=by
 have key:∀ (k i N:Nat) (out:List α),i+k=xs.length→k<N→out.length=xs.length→out.take i=xs.take i→iterF body N ((i:Int),out)=some xs:=by
  intro k
  induction k with
  | zero=>
   intro i N out hi hk hl ht
   cases N with
   | zero=>omega
   | succ N=>
    have hi':i=xs.length:=by omega
    subst hi'
    simp only [iterF,h2]
    have:out=xs:=by rw [← List.take_length (l:=out),hl,ht,List.take_length]
    rw [this]; rfl
  | succ k ih=>
   intro i N out hi hk hl ht
   cases N with
   | zero=>omega
   | succ N=>
    have hlt:i<xs.length:=by omega
    simp only [iterF,h1 i out xs[i] (List.getElem?_eq_getElem hlt) hl]
    refine ih (i+1) N _ (by omega) (by omega) (by simpa using hl) ?_
    rw [List.take_add_one,List.take_add_one,List.getElem?_set_self (by omega),List.getElem?_eq_getElem hlt,List.take_set_of_le (Nat.le_refl i),ht]
 exact key xs.length 0 NN _ (by omega) hN (by simp) (by simp)
theorem Zfr {ο:Type} {body:Int→Option (Int ⊕ ο)} {n:Nat} {c:Nat→Bool} {r e:ο} (h1:∀ i:Nat,i<n→(∀ j,j<i→c j=true)→body (i:Int)=some (if c i=true then .inl ((i+1:Nat):Int) else .inr r)) (h2:(∀ j,j<n→c j=true)→body (n:Int)=some (.inr e)) (hN:n<NN):
 iterF body NN 0=some (if (List.range n).all c=true then e else r):=by
 have key:∀ (k i N:Nat),i+k=n→k<N→(∀ j,j<i→c j=true)→iterF body N (i:Int)=some (if (List.range n).all c=true then e else r):=by
  intro k
  induction k with
  | zero=>
   intro i N hi hk hj
   cases N with
   | zero=>omega
   | succ N=>
    have:i=n:=by omega
    subst this
    simp only [iterF,h2 hj]
    show some e=_
    rw [if_pos (List.all_eq_true.2 fun x hx=>hj x (List.mem_range.1 hx))]
  | succ k ih=>
   intro i N hi hk hj
   cases N with
   | zero=>omega
   | succ N=>
    simp only [iterF,h1 i (by omega) hj]
    by_cases hc:c i=true
    ·rw [if_pos hc]
     exact ih (i+1) N (by omega) (by omega) (fun j hj'=>by
      rcases Nat.lt_or_ge j i with h | h
      ·exact hj j h
      ·have:j=i:=by omega
       rw [this]; exact hc)
    ·rw [if_neg hc]
     show some r=_
     rw [if_neg fun hall=>hc (List.all_eq_true.1 hall i (List.mem_range.2 (by omega)))]
 exact key n 0 NN (by omega) hN (fun j hj=>by omega)
theorem Zn5 {α:Type} (xs:List α) (p:α→Bool) (c:Nat→Bool) (h:∀ i (hi:i<xs.length),c i=p xs[i]):(List.range xs.length).all c=xs.all p:=by
 rw [Bool.eq_iff_iff,List.all_eq_true,List.all_eq_true]
 constructor
 ·intro H x hx
  obtain ⟨i,hi,rfl⟩:=List.getElem_of_mem hx
  rw [← h i hi]; exact H i (List.mem_range.2 hi)
 ·intro H i hi
  have hi':=List.mem_range.1 hi
  rw [h i hi']; exact H _ (List.getElem_mem hi')
theorem Zf7 {α ο:Type} {xs:List α} {body:Int→Option (Int ⊕ ο)} {p:α→Bool} {r e:ο} (h1:∀ i (hi:i<xs.length),body (i:Int)=some (if p xs[i]=true then .inr r else .inl ((i+1:Nat):Int))) (h2:body (xs.length:Int)=some (.inr e)) (hN:xs.length<NN):
 iterF body NN 0=some (if xs.any p=true then r else e):=by
 rw [Zfr (n:=xs.length) (c:=fun i=>(xs[i]?.map fun x=>!p x).getD true) (r:=r) (e:=e) (fun i hi _=>?_) (fun _=>h2) hN,Zn5 xs (fun x=>!p x) _ (fun i hi=>by simp [hi])]
 ·rw [List.all_eq_not_any_not]
  cases hb:xs.any p with
  | true=>simp [hb]
  | false=>simp [hb]
 ·rw [h1 i hi]
  simp only [List.getElem?_eq_getElem hi,Option.map_some,Option.getD_some]
  cases p xs[i] <;> rfl
attribute [go_sem] Tryz.underlying2
@[go_sem] theorem tc2:Tryz.prog.cellsOf 2=1:=by kernel_rfl
@[go_sem] theorem tb2:Tryz.prog.bytesOf 2=8:=by kernel_rfl
@[go_sem] theorem tz2:pz Tryz.prog 2=some [.v (.int .i64 0)]:=by kernel_rfl
attribute [go_sem] Tryz.underlying3
@[go_sem] theorem tc3:Tryz.prog.cellsOf 3=1:=by kernel_rfl
@[go_sem] theorem tb3:Tryz.prog.bytesOf 3=8:=by kernel_rfl
@[go_sem] theorem tz3:pz Tryz.prog 3=some [.v (.int .i64 0)]:=by kernel_rfl
attribute [go_sem] Tryz.underlying4
@[go_sem] theorem tc4:Tryz.prog.cellsOf 4=1:=by kernel_rfl
@[go_sem] theorem tb4:Tryz.prog.bytesOf 4=1:=by kernel_rfl
@[go_sem] theorem tz4:pz Tryz.prog 4=some [.v (.bool false)]:=by kernel_rfl
attribute [go_sem] Tryz.underlying5
@[go_sem] theorem tc5:Tryz.prog.cellsOf 5=1:=by kernel_rfl
@[go_sem] theorem tb5:Tryz.prog.bytesOf 5=1:=by kernel_rfl
@[go_sem] theorem tz5:pz Tryz.prog 5=some [.v (.int .u8 0)]:=by kernel_rfl
attribute [go_sem] Tryz.underlying9
@[go_sem] theorem tc9:Tryz.prog.cellsOf 9=1:=by kernel_rfl
@[go_sem] theorem tb9:Tryz.prog.bytesOf 9=16:=by kernel_rfl
@[go_sem] theorem tz9:pz Tryz.prog 9=some [.v (.string ⟨#[]⟩)]:=by kernel_rfl
attribute [go_sem] Tryz.underlying12
@[go_sem] theorem tc12:Tryz.prog.cellsOf 12=1:=by kernel_rfl
@[go_sem] theorem tb12:Tryz.prog.bytesOf 12=8:=by kernel_rfl
@[go_sem] theorem tz12:pz Tryz.prog 12=some [.v (.int .u64 0)]:=by kernel_rfl
attribute [go_sem] Tryz.underlying21
@[go_sem] theorem tc21:Tryz.prog.cellsOf 21=1:=by kernel_rfl
@[go_sem] theorem tb21:Tryz.prog.bytesOf 21=4:=by kernel_rfl
@[go_sem] theorem tz21:pz Tryz.prog 21=some [.v (.int .i32 0)]:=by kernel_rfl
attribute [go_sem] Tryz.underlying22
@[go_sem] theorem tc22:Tryz.prog.cellsOf 22=1:=by kernel_rfl
@[go_sem] theorem tb22:Tryz.prog.bytesOf 22=24:=by kernel_rfl
@[go_sem] theorem tz22:pz Tryz.prog 22=some [.v (.slice none 0 0)]:=by kernel_rfl
@[go_sem] theorem tk22:elemK Tryz.prog 22=6:=by kernel_rfl
attribute [go_sem] Tryz.underlying23
@[go_sem] theorem tc23:Tryz.prog.cellsOf 23=1:=by kernel_rfl
@[go_sem] theorem tb23:Tryz.prog.bytesOf 23=24:=by kernel_rfl
@[go_sem] theorem tz23:pz Tryz.prog 23=some [.v (.slice none 0 0)]:=by kernel_rfl
@[go_sem] theorem tk23:elemK Tryz.prog 23=1:=by kernel_rfl
attribute [go_sem] Tryz.underlying24
@[go_sem] theorem tc24:Tryz.prog.cellsOf 24=3:=by kernel_rfl
@[go_sem] theorem tb24:Tryz.prog.bytesOf 24=56:=by kernel_rfl
@[go_sem] theorem tz24:pz Tryz.prog 24=some [.v (.slice none 0 0),.v (.slice none 0 0),.v (.int .i64 0)]:=by kernel_rfl
@[go_sem] theorem te24:Tryz.prog.eqGuardType Tryz.prog.depth 24=false:=by kernel_rfl
@[go_sem] theorem ts24:Tryz.prog.stoodInHeld 24=false:=by kernel_rfl
attribute [go_sem] Tryz.underlying25
@[go_sem] theorem tc25:Tryz.prog.cellsOf 25=3:=by kernel_rfl
@[go_sem] theorem tb25:Tryz.prog.bytesOf 25=56:=by kernel_rfl
@[go_sem] theorem tz25:pz Tryz.prog 25=some [.v (.slice none 0 0),.v (.slice none 0 0),.v (.int .i64 0)]:=by kernel_rfl
@[go_sem] theorem te25:Tryz.prog.eqGuardType Tryz.prog.depth 25=false:=by kernel_rfl
@[go_sem] theorem ts25:Tryz.prog.stoodInHeld 25=false:=by kernel_rfl
attribute [go_sem] Tryz.underlying26
@[go_sem] theorem tc26:Tryz.prog.cellsOf 26=1:=by kernel_rfl
@[go_sem] theorem tb26:Tryz.prog.bytesOf 26=24:=by kernel_rfl
@[go_sem] theorem tz26:pz Tryz.prog 26=some [.v (.slice none 0 0)]:=by kernel_rfl
@[go_sem] theorem tk26:elemK Tryz.prog 26=11:=by kernel_rfl
attribute [go_sem] Tryz.underlying27
@[go_sem] theorem tc27:Tryz.prog.cellsOf 27=1:=by kernel_rfl
@[go_sem] theorem tb27:Tryz.prog.bytesOf 27=24:=by kernel_rfl
@[go_sem] theorem tz27:pz Tryz.prog 27=some [.v (.slice none 0 0)]:=by kernel_rfl
@[go_sem] theorem tk27:elemK Tryz.prog 27=4:=by kernel_rfl
attribute [go_sem] Tryz.underlying28
@[go_sem] theorem tc28:Tryz.prog.cellsOf 28=1:=by kernel_rfl
@[go_sem] theorem tb28:Tryz.prog.bytesOf 28=24:=by kernel_rfl
@[go_sem] theorem tz28:pz Tryz.prog 28=some [.v (.slice none 0 0)]:=by kernel_rfl
@[go_sem] theorem tk28:elemK Tryz.prog 28=2:=by kernel_rfl
attribute [go_sem] Tryz.underlying29
@[go_sem] theorem tc29:Tryz.prog.cellsOf 29=1:=by kernel_rfl
@[go_sem] theorem tb29:Tryz.prog.bytesOf 29=24:=by kernel_rfl
@[go_sem] theorem tz29:pz Tryz.prog 29=some [.v (.slice none 0 0)]:=by kernel_rfl
@[go_sem] theorem tk29:elemK Tryz.prog 29=6:=by kernel_rfl
attribute [go_sem] Tryz.underlying30
@[go_sem] theorem tc30:Tryz.prog.cellsOf 30=10:=by kernel_rfl
@[go_sem] theorem tb30:Tryz.prog.bytesOf 30=192:=by kernel_rfl
@[go_sem] theorem tz30:pz Tryz.prog 30=some [.v (.slice none 0 0),.v (.slice none 0 0),.v (.int .i64 0),.v (.slice none 0 0),.v (.slice none 0 0),.v (.slice none 0 0),.v (.int .i64 0),.v (.slice none 0 0),.v (.slice none 0 0),.v (.int .i64 0)]:=by kernel_rfl
@[go_sem] theorem te30:Tryz.prog.eqGuardType Tryz.prog.depth 30=false:=by kernel_rfl
@[go_sem] theorem ts30:Tryz.prog.stoodInHeld 30=false:=by kernel_rfl
attribute [go_sem] Tryz.underlying31
@[go_sem] theorem tc31:Tryz.prog.cellsOf 31=10:=by kernel_rfl
@[go_sem] theorem tb31:Tryz.prog.bytesOf 31=192:=by kernel_rfl
@[go_sem] theorem tz31:pz Tryz.prog 31=some [.v (.slice none 0 0),.v (.slice none 0 0),.v (.int .i64 0),.v (.slice none 0 0),.v (.slice none 0 0),.v (.slice none 0 0),.v (.int .i64 0),.v (.slice none 0 0),.v (.slice none 0 0),.v (.int .i64 0)]:=by kernel_rfl
@[go_sem] theorem te31:Tryz.prog.eqGuardType Tryz.prog.depth 31=false:=by kernel_rfl
@[go_sem] theorem ts31:Tryz.prog.stoodInHeld 31=false:=by kernel_rfl
attribute [go_sem] Tryz.underlying33
@[go_sem] theorem tc33:Tryz.prog.cellsOf 33=1:=by kernel_rfl
@[go_sem] theorem tb33:Tryz.prog.bytesOf 33=24:=by kernel_rfl
@[go_sem] theorem tz33:pz Tryz.prog 33=some [.v (.slice none 0 0)]:=by kernel_rfl
@[go_sem] theorem tk33:elemK Tryz.prog 33=6:=by kernel_rfl
attribute [go_sem] Tryz.underlying34
@[go_sem] theorem tc34:Tryz.prog.cellsOf 34=3:=by kernel_rfl
@[go_sem] theorem tb34:Tryz.prog.bytesOf 34=56:=by kernel_rfl
@[go_sem] theorem tz34:pz Tryz.prog 34=some [.v (.slice none 0 0),.v (.slice none 0 0),.v (.int .i64 0)]:=by kernel_rfl
@[go_sem] theorem te34:Tryz.prog.eqGuardType Tryz.prog.depth 34=false:=by kernel_rfl
@[go_sem] theorem ts34:Tryz.prog.stoodInHeld 34=false:=by kernel_rfl
attribute [go_sem] Tryz.underlying35
@[go_sem] theorem tc35:Tryz.prog.cellsOf 35=3:=by kernel_rfl
@[go_sem] theorem tb35:Tryz.prog.bytesOf 35=56:=by kernel_rfl
@[go_sem] theorem tz35:pz Tryz.prog 35=some [.v (.slice none 0 0),.v (.slice none 0 0),.v (.int .i64 0)]:=by kernel_rfl
@[go_sem] theorem te35:Tryz.prog.eqGuardType Tryz.prog.depth 35=false:=by kernel_rfl
@[go_sem] theorem ts35:Tryz.prog.stoodInHeld 35=false:=by kernel_rfl
attribute [go_sem] Tryz.underlying36
@[go_sem] theorem tc36:Tryz.prog.cellsOf 36=1:=by kernel_rfl
@[go_sem] theorem tb36:Tryz.prog.bytesOf 36=24:=by kernel_rfl
@[go_sem] theorem tz36:pz Tryz.prog 36=some [.v (.slice none 0 0)]:=by kernel_rfl
@[go_sem] theorem tk36:elemK Tryz.prog 36=11:=by kernel_rfl
attribute [go_sem] Tryz.underlying37
@[go_sem] theorem tc37:Tryz.prog.cellsOf 37=1:=by kernel_rfl
@[go_sem] theorem tb37:Tryz.prog.bytesOf 37=24:=by kernel_rfl
@[go_sem] theorem tz37:pz Tryz.prog 37=some [.v (.slice none 0 0)]:=by kernel_rfl
@[go_sem] theorem tk37:elemK Tryz.prog 37=4:=by kernel_rfl
attribute [go_sem] Tryz.underlying38
@[go_sem] theorem tc38:Tryz.prog.cellsOf 38=1:=by kernel_rfl
@[go_sem] theorem tb38:Tryz.prog.bytesOf 38=24:=by kernel_rfl
@[go_sem] theorem tz38:pz Tryz.prog 38=some [.v (.slice none 0 0)]:=by kernel_rfl
@[go_sem] theorem tk38:elemK Tryz.prog 38=2:=by kernel_rfl
attribute [go_sem] Tryz.underlying39
@[go_sem] theorem tc39:Tryz.prog.cellsOf 39=1:=by kernel_rfl
@[go_sem] theorem tb39:Tryz.prog.bytesOf 39=24:=by kernel_rfl
@[go_sem] theorem tz39:pz Tryz.prog 39=some [.v (.slice none 0 0)]:=by kernel_rfl
@[go_sem] theorem tk39:elemK Tryz.prog 39=6:=by kernel_rfl
attribute [go_sem] Tryz.underlying40
@[go_sem] theorem tc40:Tryz.prog.cellsOf 40=10:=by kernel_rfl
@[go_sem] theorem tb40:Tryz.prog.bytesOf 40=192:=by kernel_rfl
@[go_sem] theorem tz40:pz Tryz.prog 40=some [.v (.slice none 0 0),.v (.slice none 0 0),.v (.int .i64 0),.v (.slice none 0 0),.v (.slice none 0 0),.v (.slice none 0 0),.v (.int .i64 0),.v (.slice none 0 0),.v (.slice none 0 0),.v (.int .i64 0)]:=by kernel_rfl
@[go_sem] theorem te40:Tryz.prog.eqGuardType Tryz.prog.depth 40=false:=by kernel_rfl
@[go_sem] theorem ts40:Tryz.prog.stoodInHeld 40=false:=by kernel_rfl
attribute [go_sem] Tryz.underlying41
@[go_sem] theorem tc41:Tryz.prog.cellsOf 41=10:=by kernel_rfl
@[go_sem] theorem tb41:Tryz.prog.bytesOf 41=192:=by kernel_rfl
@[go_sem] theorem tz41:pz Tryz.prog 41=some [.v (.slice none 0 0),.v (.slice none 0 0),.v (.int .i64 0),.v (.slice none 0 0),.v (.slice none 0 0),.v (.slice none 0 0),.v (.int .i64 0),.v (.slice none 0 0),.v (.slice none 0 0),.v (.int .i64 0)]:=by kernel_rfl
@[go_sem] theorem te41:Tryz.prog.eqGuardType Tryz.prog.depth 41=false:=by kernel_rfl
@[go_sem] theorem ts41:Tryz.prog.stoodInHeld 41=false:=by kernel_rfl
attribute [go_sem] Tryz.underlying47
@[go_sem] theorem tc47:Tryz.prog.cellsOf 47=1:=by kernel_rfl
@[go_sem] theorem tb47:Tryz.prog.bytesOf 47=24:=by kernel_rfl
@[go_sem] theorem tz47:pz Tryz.prog 47=some [.v (.slice none 0 0)]:=by kernel_rfl
@[go_sem] theorem tk47:elemK Tryz.prog 47=1:=by kernel_rfl
attribute [go_sem] Tryz.underlying54
@[go_sem] theorem tc54:Tryz.prog.cellsOf 54=2:=by kernel_rfl
@[go_sem] theorem tb54:Tryz.prog.bytesOf 54=16:=by kernel_rfl
@[go_sem] theorem tz54:pz Tryz.prog 54=some [.v (.int .i64 0),.v (.int .i64 0)]:=by kernel_rfl
@[go_sem] theorem te54:Tryz.prog.eqGuardType Tryz.prog.depth 54=false:=by kernel_rfl
@[go_sem] theorem ts54:Tryz.prog.stoodInHeld 54=false:=by kernel_rfl
attribute [go_sem] Tryz.underlying55
@[go_sem] theorem tc55:Tryz.prog.cellsOf 55=2:=by kernel_rfl
@[go_sem] theorem tb55:Tryz.prog.bytesOf 55=16:=by kernel_rfl
@[go_sem] theorem tz55:pz Tryz.prog 55=some [.v (.int .i64 0),.v (.int .i64 0)]:=by kernel_rfl
@[go_sem] theorem te55:Tryz.prog.eqGuardType Tryz.prog.depth 55=false:=by kernel_rfl
@[go_sem] theorem ts55:Tryz.prog.stoodInHeld 55=false:=by kernel_rfl
attribute [go_sem] Tryz.underlying61
@[go_sem] theorem tc61:Tryz.prog.cellsOf 61=11:=by kernel_rfl
@[go_sem] theorem tb61:Tryz.prog.bytesOf 61=128:=by kernel_rfl
@[go_sem] theorem tz61:pz Tryz.prog 61=some [.v (.string ⟨#[]⟩),.v (.string ⟨#[]⟩),.v (.int .i64 0),.v (.int .i64 0),.v (.int .i64 0),.v (.int .i64 0),.v (.slice none 0 0),.v (.int .i64 0),.v (.int .i64 0),.v (.string ⟨#[]⟩),.v (.int .i64 0)]:=by kernel_rfl
@[go_sem] theorem te61:Tryz.prog.eqGuardType Tryz.prog.depth 61=false:=by kernel_rfl
@[go_sem] theorem ts61:Tryz.prog.stoodInHeld 61=false:=by kernel_rfl
attribute [go_sem] Tryz.underlying62
@[go_sem] theorem tc62:Tryz.prog.cellsOf 62=11:=by kernel_rfl
@[go_sem] theorem tb62:Tryz.prog.bytesOf 62=128:=by kernel_rfl
@[go_sem] theorem tz62:pz Tryz.prog 62=some [.v (.string ⟨#[]⟩),.v (.string ⟨#[]⟩),.v (.int .i64 0),.v (.int .i64 0),.v (.int .i64 0),.v (.int .i64 0),.v (.slice none 0 0),.v (.int .i64 0),.v (.int .i64 0),.v (.string ⟨#[]⟩),.v (.int .i64 0)]:=by kernel_rfl
@[go_sem] theorem te62:Tryz.prog.eqGuardType Tryz.prog.depth 62=false:=by kernel_rfl
@[go_sem] theorem ts62:Tryz.prog.stoodInHeld 62=false:=by kernel_rfl
attribute [go_sem] Tryz.underlying66
@[go_sem] theorem tc66:Tryz.prog.cellsOf 66=6:=by kernel_rfl
@[go_sem] theorem tb66:Tryz.prog.bytesOf 66=64:=by kernel_rfl
@[go_sem] theorem tz66:pz Tryz.prog 66=some [.v (.string ⟨#[]⟩),.v (.string ⟨#[]⟩),.v (.int .i64 0),.v (.int .i64 0),.v (.int .i64 0),.v (.int .i64 0)]:=by kernel_rfl
@[go_sem] theorem te66:Tryz.prog.eqGuardType Tryz.prog.depth 66=false:=by kernel_rfl
@[go_sem] theorem ts66:Tryz.prog.stoodInHeld 66=false:=by kernel_rfl
attribute [go_sem] Tryz.underlying67
@[go_sem] theorem tc67:Tryz.prog.cellsOf 67=6:=by kernel_rfl
@[go_sem] theorem tb67:Tryz.prog.bytesOf 67=64:=by kernel_rfl
@[go_sem] theorem tz67:pz Tryz.prog 67=some [.v (.string ⟨#[]⟩),.v (.string ⟨#[]⟩),.v (.int .i64 0),.v (.int .i64 0),.v (.int .i64 0),.v (.int .i64 0)]:=by kernel_rfl
@[go_sem] theorem te67:Tryz.prog.eqGuardType Tryz.prog.depth 67=false:=by kernel_rfl
@[go_sem] theorem ts67:Tryz.prog.stoodInHeld 67=false:=by kernel_rfl
attribute [go_sem] Tryz.underlying71
@[go_sem] theorem tc71:Tryz.prog.cellsOf 71=2:=by kernel_rfl
@[go_sem] theorem tb71:Tryz.prog.bytesOf 71=16:=by kernel_rfl
@[go_sem] theorem tz71:pz Tryz.prog 71=some [.v (.int .i64 0),.v (.int .i64 0)]:=by kernel_rfl
@[go_sem] theorem te71:Tryz.prog.eqGuardType Tryz.prog.depth 71=false:=by kernel_rfl
@[go_sem] theorem ts71:Tryz.prog.stoodInHeld 71=false:=by kernel_rfl
attribute [go_sem] Tryz.underlying81
@[go_sem] theorem tc81:Tryz.prog.cellsOf 81=1:=by kernel_rfl
@[go_sem] theorem tb81:Tryz.prog.bytesOf 81=24:=by kernel_rfl
@[go_sem] theorem tz81:pz Tryz.prog 81=some [.v (.slice none 0 0)]:=by kernel_rfl
@[go_sem] theorem tk81:elemK Tryz.prog 81=1:=by kernel_rfl
attribute [go_sem] Tryz.underlying91
@[go_sem] theorem tc91:Tryz.prog.cellsOf 91=2:=by kernel_rfl
@[go_sem] theorem tb91:Tryz.prog.bytesOf 91=48:=by kernel_rfl
@[go_sem] theorem tz91:pz Tryz.prog 91=some [.v (.slice none 0 0),.v (.slice none 0 0)]:=by kernel_rfl
@[go_sem] theorem te91:Tryz.prog.eqGuardType Tryz.prog.depth 91=false:=by kernel_rfl
@[go_sem] theorem ts91:Tryz.prog.stoodInHeld 91=false:=by kernel_rfl
attribute [go_sem] Tryz.underlying92
@[go_sem] theorem tc92:Tryz.prog.cellsOf 92=2:=by kernel_rfl
@[go_sem] theorem tb92:Tryz.prog.bytesOf 92=48:=by kernel_rfl
@[go_sem] theorem tz92:pz Tryz.prog 92=some [.v (.slice none 0 0),.v (.slice none 0 0)]:=by kernel_rfl
@[go_sem] theorem te92:Tryz.prog.eqGuardType Tryz.prog.depth 92=false:=by kernel_rfl
@[go_sem] theorem ts92:Tryz.prog.stoodInHeld 92=false:=by kernel_rfl
attribute [go_sem] Tryz.underlying129
@[go_sem] theorem Zvp:Tryz.prog.cellsOf 129=6:=by kernel_rfl
@[go_sem] theorem Zu4:Tryz.prog.bytesOf 129=56:=by kernel_rfl
@[go_sem] theorem Zwd:pz Tryz.prog 129=some [.v (.int .i64 0),.v (.int .i64 0),.v (.int .i64 0),.v (.string ⟨#[]⟩),.v (.int .i64 0),.v (.int .i64 0)]:=by kernel_rfl
@[go_sem] theorem ZvI:Tryz.prog.eqGuardType Tryz.prog.depth 129=false:=by kernel_rfl
@[go_sem] theorem ZvY:Tryz.prog.stoodInHeld 129=false:=by kernel_rfl
attribute [go_sem] Tryz.underlying130
@[go_sem] theorem Zsi:Tryz.prog.cellsOf 130=6:=by kernel_rfl
@[go_sem] theorem Zu5:Tryz.prog.bytesOf 130=56:=by kernel_rfl
@[go_sem] theorem Zwe:pz Tryz.prog 130=some [.v (.int .i64 0),.v (.int .i64 0),.v (.int .i64 0),.v (.string ⟨#[]⟩),.v (.int .i64 0),.v (.int .i64 0)]:=by kernel_rfl
@[go_sem] theorem ZrF:Tryz.prog.eqGuardType Tryz.prog.depth 130=false:=by kernel_rfl
@[go_sem] theorem Zsk:Tryz.prog.stoodInHeld 130=false:=by kernel_rfl
attribute [go_sem] Tryz.underlying134
@[go_sem] theorem Zvq:Tryz.prog.cellsOf 134=4:=by kernel_rfl
@[go_sem] theorem Zu6:Tryz.prog.bytesOf 134=32:=by kernel_rfl
@[go_sem] theorem Zwf:pz Tryz.prog 134=some [.v (.int .i64 0),.v (.int .i64 0),.v (.int .i64 0),.v (.int .i64 0)]:=by kernel_rfl
@[go_sem] theorem ZvJ:Tryz.prog.eqGuardType Tryz.prog.depth 134=false:=by kernel_rfl
@[go_sem] theorem ZvZ:Tryz.prog.stoodInHeld 134=false:=by kernel_rfl
attribute [go_sem] Tryz.underlying135
@[go_sem] theorem Zsj:Tryz.prog.cellsOf 135=4:=by kernel_rfl
@[go_sem] theorem Zu7:Tryz.prog.bytesOf 135=32:=by kernel_rfl
@[go_sem] theorem Zwg:pz Tryz.prog 135=some [.v (.int .i64 0),.v (.int .i64 0),.v (.int .i64 0),.v (.int .i64 0)]:=by kernel_rfl
@[go_sem] theorem ZrG:Tryz.prog.eqGuardType Tryz.prog.depth 135=false:=by kernel_rfl
@[go_sem] theorem Zsl:Tryz.prog.stoodInHeld 135=false:=by kernel_rfl
attribute [go_sem] Tryz.underlying159
@[go_sem] theorem Zvr:Tryz.prog.cellsOf 159=2:=by kernel_rfl
@[go_sem] theorem Zu8:Tryz.prog.bytesOf 159=24:=by kernel_rfl
@[go_sem] theorem Zwh:pz Tryz.prog 159=some [.v (.string ⟨#[]⟩),.v (.int .i64 0)]:=by kernel_rfl
@[go_sem] theorem ZvK:Tryz.prog.eqGuardType Tryz.prog.depth 159=false:=by kernel_rfl
@[go_sem] theorem Zv0:Tryz.prog.stoodInHeld 159=false:=by kernel_rfl
attribute [go_sem] Tryz.underlying160
@[go_sem] theorem Zvs:Tryz.prog.cellsOf 160=2:=by kernel_rfl
@[go_sem] theorem Zu9:Tryz.prog.bytesOf 160=24:=by kernel_rfl
@[go_sem] theorem Zwi:pz Tryz.prog 160=some [.v (.string ⟨#[]⟩),.v (.int .i64 0)]:=by kernel_rfl
@[go_sem] theorem ZvL:Tryz.prog.eqGuardType Tryz.prog.depth 160=false:=by kernel_rfl
@[go_sem] theorem Zv1:Tryz.prog.stoodInHeld 160=false:=by kernel_rfl
attribute [go_sem] Tryz.underlying161
@[go_sem] theorem Zvt:Tryz.prog.cellsOf 161=15:=by kernel_rfl
@[go_sem] theorem Zva:Tryz.prog.bytesOf 161=168:=by kernel_rfl
@[go_sem] theorem Zwj:pz Tryz.prog 161=some [.v (.slice none 0 0),.v (.slice none 0 0),.v (.int .i64 0),.v (.int .i64 0),.v (.bool false),.v (.string ⟨#[]⟩),.v (.int .i64 0),.v (.int .i64 0),.v (.bool false),.v (.bool false),.v (.string ⟨#[]⟩),.v (.int .i64 0),.v (.string ⟨#[]⟩),.v (.int .i64 0),.v (.bool false)]:=by kernel_rfl
@[go_sem] theorem ZvM:Tryz.prog.eqGuardType Tryz.prog.depth 161=false:=by kernel_rfl
@[go_sem] theorem Zv2:Tryz.prog.stoodInHeld 161=false:=by kernel_rfl
attribute [go_sem] Tryz.underlying162
@[go_sem] theorem Zvu:Tryz.prog.cellsOf 162=15:=by kernel_rfl
@[go_sem] theorem Zvb:Tryz.prog.bytesOf 162=168:=by kernel_rfl
@[go_sem] theorem Zwk:pz Tryz.prog 162=some [.v (.slice none 0 0),.v (.slice none 0 0),.v (.int .i64 0),.v (.int .i64 0),.v (.bool false),.v (.string ⟨#[]⟩),.v (.int .i64 0),.v (.int .i64 0),.v (.bool false),.v (.bool false),.v (.string ⟨#[]⟩),.v (.int .i64 0),.v (.string ⟨#[]⟩),.v (.int .i64 0),.v (.bool false)]:=by kernel_rfl
@[go_sem] theorem ZvN:Tryz.prog.eqGuardType Tryz.prog.depth 162=false:=by kernel_rfl
@[go_sem] theorem Zv3:Tryz.prog.stoodInHeld 162=false:=by kernel_rfl
attribute [go_sem] Tryz.underlying168
@[go_sem] theorem Zvv:Tryz.prog.cellsOf 168=11:=by kernel_rfl
@[go_sem] theorem Zvc:Tryz.prog.bytesOf 168=128:=by kernel_rfl
@[go_sem] theorem Zwl:pz Tryz.prog 168=some [.v (.string ⟨#[]⟩),.v (.string ⟨#[]⟩),.v (.int .i64 0),.v (.int .i64 0),.v (.int .i64 0),.v (.int .i64 0),.v (.slice none 0 0),.v (.int .i64 0),.v (.int .i64 0),.v (.string ⟨#[]⟩),.v (.int .i64 0)]:=by kernel_rfl
@[go_sem] theorem ZvO:Tryz.prog.eqGuardType Tryz.prog.depth 168=false:=by kernel_rfl
@[go_sem] theorem Zv4:Tryz.prog.stoodInHeld 168=false:=by kernel_rfl
attribute [go_sem] Tryz.underlying169
@[go_sem] theorem Zvw:Tryz.prog.cellsOf 169=11:=by kernel_rfl
@[go_sem] theorem Zvd:Tryz.prog.bytesOf 169=128:=by kernel_rfl
@[go_sem] theorem Zwm:pz Tryz.prog 169=some [.v (.string ⟨#[]⟩),.v (.string ⟨#[]⟩),.v (.int .i64 0),.v (.int .i64 0),.v (.int .i64 0),.v (.int .i64 0),.v (.slice none 0 0),.v (.int .i64 0),.v (.int .i64 0),.v (.string ⟨#[]⟩),.v (.int .i64 0)]:=by kernel_rfl
@[go_sem] theorem ZvP:Tryz.prog.eqGuardType Tryz.prog.depth 169=false:=by kernel_rfl
@[go_sem] theorem Zv5:Tryz.prog.stoodInHeld 169=false:=by kernel_rfl
attribute [go_sem] Tryz.underlying171
@[go_sem] theorem Zvx:Tryz.prog.cellsOf 171=6:=by kernel_rfl
@[go_sem] theorem Zve:Tryz.prog.bytesOf 171=56:=by kernel_rfl
@[go_sem] theorem Zwn:pz Tryz.prog 171=some [.v (.int .i64 0),.v (.int .i64 0),.v (.int .i64 0),.v (.string ⟨#[]⟩),.v (.int .i64 0),.v (.int .i64 0)]:=by kernel_rfl
@[go_sem] theorem ZvQ:Tryz.prog.eqGuardType Tryz.prog.depth 171=false:=by kernel_rfl
@[go_sem] theorem Zv6:Tryz.prog.stoodInHeld 171=false:=by kernel_rfl
attribute [go_sem] Tryz.underlying172
@[go_sem] theorem Zvy:Tryz.prog.cellsOf 172=6:=by kernel_rfl
@[go_sem] theorem Zvf:Tryz.prog.bytesOf 172=56:=by kernel_rfl
@[go_sem] theorem Zwo:pz Tryz.prog 172=some [.v (.int .i64 0),.v (.int .i64 0),.v (.int .i64 0),.v (.string ⟨#[]⟩),.v (.int .i64 0),.v (.int .i64 0)]:=by kernel_rfl
@[go_sem] theorem ZvR:Tryz.prog.eqGuardType Tryz.prog.depth 172=false:=by kernel_rfl
@[go_sem] theorem Zv7:Tryz.prog.stoodInHeld 172=false:=by kernel_rfl
attribute [go_sem] Tryz.underlying177
@[go_sem] theorem Zvz:Tryz.prog.cellsOf 177=4:=by kernel_rfl
@[go_sem] theorem Zvg:Tryz.prog.bytesOf 177=32:=by kernel_rfl
@[go_sem] theorem Zwp:pz Tryz.prog 177=some [.v (.int .i64 0),.v (.int .i64 0),.v (.int .i64 0),.v (.int .i64 0)]:=by kernel_rfl
@[go_sem] theorem ZvS:Tryz.prog.eqGuardType Tryz.prog.depth 177=false:=by kernel_rfl
@[go_sem] theorem Zv8:Tryz.prog.stoodInHeld 177=false:=by kernel_rfl
attribute [go_sem] Tryz.underlying178
@[go_sem] theorem ZvA:Tryz.prog.cellsOf 178=4:=by kernel_rfl
@[go_sem] theorem Zvh:Tryz.prog.bytesOf 178=32:=by kernel_rfl
@[go_sem] theorem Zwq:pz Tryz.prog 178=some [.v (.int .i64 0),.v (.int .i64 0),.v (.int .i64 0),.v (.int .i64 0)]:=by kernel_rfl
@[go_sem] theorem ZvT:Tryz.prog.eqGuardType Tryz.prog.depth 178=false:=by kernel_rfl
@[go_sem] theorem Zv9:Tryz.prog.stoodInHeld 178=false:=by kernel_rfl
attribute [go_sem] Tryz.underlying186
@[go_sem] theorem ZvB:Tryz.prog.cellsOf 186=3:=by kernel_rfl
@[go_sem] theorem Zvi:Tryz.prog.bytesOf 186=40:=by kernel_rfl
@[go_sem] theorem Zwr:pz Tryz.prog 186=some [.v (.slice none 0 0),.v (.int .i64 0),.v (.int .i64 0)]:=by kernel_rfl
@[go_sem] theorem ZvU:Tryz.prog.eqGuardType Tryz.prog.depth 186=false:=by kernel_rfl
@[go_sem] theorem Zwa:Tryz.prog.stoodInHeld 186=false:=by kernel_rfl
attribute [go_sem] Tryz.underlying187
@[go_sem] theorem ZvC:Tryz.prog.cellsOf 187=3:=by kernel_rfl
@[go_sem] theorem Zvj:Tryz.prog.bytesOf 187=40:=by kernel_rfl
@[go_sem] theorem Zws:pz Tryz.prog 187=some [.v (.slice none 0 0),.v (.int .i64 0),.v (.int .i64 0)]:=by kernel_rfl
@[go_sem] theorem ZvV:Tryz.prog.eqGuardType Tryz.prog.depth 187=false:=by kernel_rfl
@[go_sem] theorem Zwb:Tryz.prog.stoodInHeld 187=false:=by kernel_rfl
attribute [go_sem] Tryz.underlying214
@[go_sem] theorem ZvD:Tryz.prog.cellsOf 214=1:=by kernel_rfl
@[go_sem] theorem Zvk:Tryz.prog.bytesOf 214=24:=by kernel_rfl
@[go_sem] theorem Zwt:pz Tryz.prog 214=some [.v (.slice none 0 0)]:=by kernel_rfl
@[go_sem] theorem ZvX:elemK Tryz.prog 214=1:=by kernel_rfl
attribute [go_sem] Tryz.underlying225
@[go_sem] theorem ZvE:Tryz.prog.cellsOf 225=6:=by kernel_rfl
@[go_sem] theorem Zvl:Tryz.prog.bytesOf 225=64:=by kernel_rfl
@[go_sem] theorem Zwu:pz Tryz.prog 225=some [.v (.string ⟨#[]⟩),.v (.string ⟨#[]⟩),.v (.int .i64 0),.v (.int .i64 0),.v (.int .i64 0),.v (.int .i64 0)]:=by kernel_rfl
@[go_sem] theorem ZvW:Tryz.prog.eqGuardType Tryz.prog.depth 225=false:=by kernel_rfl
@[go_sem] theorem Zwc:Tryz.prog.stoodInHeld 225=false:=by kernel_rfl
attribute [go_sem] Tryz.underlying230
@[go_sem] theorem ZvF:Tryz.prog.cellsOf 230=1:=by kernel_rfl
@[go_sem] theorem Zvm:Tryz.prog.bytesOf 230=8:=by kernel_rfl
@[go_sem] theorem Zwv:pz Tryz.prog 230=some [.v (.int .u64 0)]:=by kernel_rfl
attribute [go_sem] Tryz.underlying271
@[go_sem] theorem ZvG:Tryz.prog.cellsOf 271=1:=by kernel_rfl
@[go_sem] theorem Zvn:Tryz.prog.bytesOf 271=4:=by kernel_rfl
@[go_sem] theorem Zww:pz Tryz.prog 271=some [.v (.int .u32 0)]:=by kernel_rfl
attribute [go_sem] Tryz.underlying273
@[go_sem] theorem ZvH:Tryz.prog.cellsOf 273=1:=by kernel_rfl
@[go_sem] theorem Zvo:Tryz.prog.bytesOf 273=8:=by kernel_rfl
@[go_sem] theorem Zwx:pz Tryz.prog 273=some [.v (.int .u64 0)]:=by kernel_rfl
@[go_sem] theorem fn3:isFn Tryz.prog 3:=⟨_,Tryz.func3,rfl,by kernel_rfl⟩
@[go_sem] theorem fn4:isFn Tryz.prog 4:=⟨_,Tryz.func4,rfl,by kernel_rfl⟩
@[go_sem] theorem fn5:isFn Tryz.prog 5:=⟨_,Tryz.func5,rfl,by kernel_rfl⟩
@[go_sem] theorem fn6:isFn Tryz.prog 6:=⟨_,Tryz.func6,rfl,by kernel_rfl⟩
@[go_sem] theorem fn7:isFn Tryz.prog 7:=⟨_,Tryz.func7,rfl,by kernel_rfl⟩
@[go_sem] theorem fn8:isFn Tryz.prog 8:=⟨_,Tryz.func8,rfl,by kernel_rfl⟩
@[go_sem] theorem fn9:isFn Tryz.prog 9:=⟨_,Tryz.func9,rfl,by kernel_rfl⟩
@[go_sem] theorem fn10:isFn Tryz.prog 10:=⟨_,Tryz.func10,rfl,by kernel_rfl⟩
@[go_sem] theorem fn11:isFn Tryz.prog 11:=⟨_,Tryz.func11,rfl,by kernel_rfl⟩
@[go_sem] theorem fn12:isFn Tryz.prog 12:=⟨_,Tryz.func12,rfl,by kernel_rfl⟩
@[go_sem] theorem fn13:isFn Tryz.prog 13:=⟨_,Tryz.func13,rfl,by kernel_rfl⟩
@[go_sem] theorem fn14:isFn Tryz.prog 14:=⟨_,Tryz.func14,rfl,by kernel_rfl⟩
@[go_sem] theorem fn15:isFn Tryz.prog 15:=⟨_,Tryz.func15,rfl,by kernel_rfl⟩
@[go_sem] theorem fn16:isFn Tryz.prog 16:=⟨_,Tryz.func16,rfl,by kernel_rfl⟩
@[go_sem] theorem fn17:isFn Tryz.prog 17:=⟨_,Tryz.func17,rfl,by kernel_rfl⟩
@[go_sem] theorem fn18:isFn Tryz.prog 18:=⟨_,Tryz.func18,rfl,by kernel_rfl⟩
@[go_sem] theorem fn19:isFn Tryz.prog 19:=⟨_,Tryz.func19,rfl,by kernel_rfl⟩
@[go_sem] theorem fn20:isFn Tryz.prog 20:=⟨_,Tryz.func20,rfl,by kernel_rfl⟩
@[go_sem] theorem fn21:isFn Tryz.prog 21:=⟨_,Tryz.func21,rfl,by kernel_rfl⟩
@[go_sem] theorem fn22:isFn Tryz.prog 22:=⟨_,Tryz.func22,rfl,by kernel_rfl⟩
@[go_sem] theorem fn23:isFn Tryz.prog 23:=⟨_,Tryz.func23,rfl,by kernel_rfl⟩
@[go_sem] theorem fn24:isFn Tryz.prog 24:=⟨_,Tryz.func24,rfl,by kernel_rfl⟩
@[go_sem] theorem fn25:isFn Tryz.prog 25:=⟨_,Tryz.func25,rfl,by kernel_rfl⟩
@[go_sem] theorem fn26:isFn Tryz.prog 26:=⟨_,Tryz.func26,rfl,by kernel_rfl⟩
@[go_sem] theorem fn27:isFn Tryz.prog 27:=⟨_,Tryz.func27,rfl,by kernel_rfl⟩
@[go_sem] theorem fn28:isFn Tryz.prog 28:=⟨_,Tryz.func28,rfl,by kernel_rfl⟩
@[go_sem] theorem fn29:isFn Tryz.prog 29:=⟨_,Tryz.func29,rfl,by kernel_rfl⟩
@[go_sem] theorem fn30:isFn Tryz.prog 30:=⟨_,Tryz.func30,rfl,by kernel_rfl⟩
@[go_sem] theorem fn31:isFn Tryz.prog 31:=⟨_,Tryz.func31,rfl,by kernel_rfl⟩
@[go_sem] theorem fn32:isFn Tryz.prog 32:=⟨_,Tryz.func32,rfl,by kernel_rfl⟩
@[go_sem] theorem fn33:isFn Tryz.prog 33:=⟨_,Tryz.func33,rfl,by kernel_rfl⟩
@[go_sem] theorem fn34:isFn Tryz.prog 34:=⟨_,Tryz.func34,rfl,by kernel_rfl⟩
@[go_sem] theorem fn35:isFn Tryz.prog 35:=⟨_,Tryz.func35,rfl,by kernel_rfl⟩
@[go_sem] theorem fn36:isFn Tryz.prog 36:=⟨_,Tryz.func36,rfl,by kernel_rfl⟩
@[go_sem] theorem fn37:isFn Tryz.prog 37:=⟨_,Tryz.func37,rfl,by kernel_rfl⟩
@[go_sem] theorem fn38:isFn Tryz.prog 38:=⟨_,Tryz.func38,rfl,by kernel_rfl⟩
@[go_sem] theorem fn39:isFn Tryz.prog 39:=⟨_,Tryz.func39,rfl,by kernel_rfl⟩
@[go_sem] theorem fn40:isFn Tryz.prog 40:=⟨_,Tryz.func40,rfl,by kernel_rfl⟩
@[go_sem] theorem fn41:isFn Tryz.prog 41:=⟨_,Tryz.func41,rfl,by kernel_rfl⟩
@[go_sem] theorem fn42:isFn Tryz.prog 42:=⟨_,Tryz.func42,rfl,by kernel_rfl⟩
@[go_sem] theorem fn43:isFn Tryz.prog 43:=⟨_,Tryz.func43,rfl,by kernel_rfl⟩
@[go_sem] theorem fn44:isFn Tryz.prog 44:=⟨_,Tryz.func44,rfl,by kernel_rfl⟩
@[go_sem] theorem fn45:isFn Tryz.prog 45:=⟨_,Tryz.func45,rfl,by kernel_rfl⟩
@[go_sem] theorem fn46:isFn Tryz.prog 46:=⟨_,Tryz.func46,rfl,by kernel_rfl⟩
@[go_sem] theorem fn47:isFn Tryz.prog 47:=⟨_,Tryz.func47,rfl,by kernel_rfl⟩
@[go_sem] theorem fn48:isFn Tryz.prog 48:=⟨_,Tryz.func48,rfl,by kernel_rfl⟩
@[go_sem] theorem fn49:isFn Tryz.prog 49:=⟨_,Tryz.func49,rfl,by kernel_rfl⟩
@[go_sem] theorem fn50:isFn Tryz.prog 50:=⟨_,Tryz.func50,rfl,by kernel_rfl⟩
@[go_sem] theorem fn51:isFn Tryz.prog 51:=⟨_,Tryz.func51,rfl,by kernel_rfl⟩
@[go_sem] theorem fn52:isFn Tryz.prog 52:=⟨_,Tryz.func52,rfl,by kernel_rfl⟩
@[go_sem] theorem fn53:isFn Tryz.prog 53:=⟨_,Tryz.func53,rfl,by kernel_rfl⟩
@[go_sem] theorem fn54:isFn Tryz.prog 54:=⟨_,Tryz.func54,rfl,by kernel_rfl⟩
@[go_sem] theorem fn55:isFn Tryz.prog 55:=⟨_,Tryz.func55,rfl,by kernel_rfl⟩
@[go_sem] theorem fn56:isFn Tryz.prog 56:=⟨_,Tryz.func56,rfl,by kernel_rfl⟩
@[go_sem] theorem fn57:isFn Tryz.prog 57:=⟨_,Tryz.func57,rfl,by kernel_rfl⟩
@[go_sem] theorem fn58:isFn Tryz.prog 58:=⟨_,Tryz.func58,rfl,by kernel_rfl⟩
@[go_sem] theorem fn59:isFn Tryz.prog 59:=⟨_,Tryz.func59,rfl,by kernel_rfl⟩
@[go_sem] theorem fn60:isFn Tryz.prog 60:=⟨_,Tryz.func60,rfl,by kernel_rfl⟩
@[go_sem] theorem fn61:isFn Tryz.prog 61:=⟨_,Tryz.func61,rfl,by kernel_rfl⟩
@[go_sem] theorem fn62:isFn Tryz.prog 62:=⟨_,Tryz.func62,rfl,by kernel_rfl⟩
@[go_sem] theorem fn63:isFn Tryz.prog 63:=⟨_,Tryz.func63,rfl,by kernel_rfl⟩
@[go_sem] theorem fn64:isFn Tryz.prog 64:=⟨_,Tryz.func64,rfl,by kernel_rfl⟩
@[go_sem] theorem fn65:isFn Tryz.prog 65:=⟨_,Tryz.func65,rfl,by kernel_rfl⟩
@[go_sem] theorem fn66:isFn Tryz.prog 66:=⟨_,Tryz.func66,rfl,by kernel_rfl⟩
@[go_sem] theorem fn67:isFn Tryz.prog 67:=⟨_,Tryz.func67,rfl,by kernel_rfl⟩
@[go_sem] theorem fn68:isFn Tryz.prog 68:=⟨_,Tryz.func68,rfl,by kernel_rfl⟩
@[go_sem] theorem fn69:isFn Tryz.prog 69:=⟨_,Tryz.func69,rfl,by kernel_rfl⟩
@[go_sem] theorem fn70:isFn Tryz.prog 70:=⟨_,Tryz.func70,rfl,by kernel_rfl⟩
@[go_sem] theorem fn71:isFn Tryz.prog 71:=⟨_,Tryz.func71,rfl,by kernel_rfl⟩
@[go_sem] theorem fn72:isFn Tryz.prog 72:=⟨_,Tryz.func72,rfl,by kernel_rfl⟩
@[go_sem] theorem fn73:isFn Tryz.prog 73:=⟨_,Tryz.func73,rfl,by kernel_rfl⟩
@[go_sem] theorem fn74:isFn Tryz.prog 74:=⟨_,Tryz.func74,rfl,by kernel_rfl⟩
@[go_sem] theorem fn75:isFn Tryz.prog 75:=⟨_,Tryz.func75,rfl,by kernel_rfl⟩
@[go_sem] theorem fn76:isFn Tryz.prog 76:=⟨_,Tryz.func76,rfl,by kernel_rfl⟩
@[go_sem] theorem fn77:isFn Tryz.prog 77:=⟨_,Tryz.func77,rfl,by kernel_rfl⟩
@[go_sem] theorem fn78:isFn Tryz.prog 78:=⟨_,Tryz.func78,rfl,by kernel_rfl⟩
@[go_sem] theorem fn79:isFn Tryz.prog 79:=⟨_,Tryz.func79,rfl,by kernel_rfl⟩
@[go_sem] theorem fn80:isFn Tryz.prog 80:=⟨_,Tryz.func80,rfl,by kernel_rfl⟩
@[go_sem] theorem fn81:isFn Tryz.prog 81:=⟨_,Tryz.func81,rfl,by kernel_rfl⟩
@[go_sem] theorem fn82:isFn Tryz.prog 82:=⟨_,Tryz.func82,rfl,by kernel_rfl⟩
@[go_sem] theorem fn83:isFn Tryz.prog 83:=⟨_,Tryz.func83,rfl,by kernel_rfl⟩
@[go_sem] theorem fn84:isFn Tryz.prog 84:=⟨_,Tryz.func84,rfl,by kernel_rfl⟩
@[go_sem] theorem fn85:isFn Tryz.prog 85:=⟨_,Tryz.func85,rfl,by kernel_rfl⟩
@[go_sem] theorem fn86:isFn Tryz.prog 86:=⟨_,Tryz.func86,rfl,by kernel_rfl⟩
@[go_sem] theorem fn87:isFn Tryz.prog 87:=⟨_,Tryz.func87,rfl,by kernel_rfl⟩
@[go_sem] theorem fn88:isFn Tryz.prog 88:=⟨_,Tryz.func88,rfl,by kernel_rfl⟩
@[go_sem] theorem fn89:isFn Tryz.prog 89:=⟨_,Tryz.func89,rfl,by kernel_rfl⟩
@[go_sem] theorem fn90:isFn Tryz.prog 90:=⟨_,Tryz.func90,rfl,by kernel_rfl⟩
@[go_sem] theorem fn91:isFn Tryz.prog 91:=⟨_,Tryz.func91,rfl,by kernel_rfl⟩
@[go_sem] theorem fn92:isFn Tryz.prog 92:=⟨_,Tryz.func92,rfl,by kernel_rfl⟩
@[go_sem] theorem fn93:isFn Tryz.prog 93:=⟨_,Tryz.func93,rfl,by kernel_rfl⟩
@[go_sem] theorem fn94:isFn Tryz.prog 94:=⟨_,Tryz.func94,rfl,by kernel_rfl⟩
@[go_sem] theorem fn95:isFn Tryz.prog 95:=⟨_,Tryz.func95,rfl,by kernel_rfl⟩
@[go_sem] theorem fn96:isFn Tryz.prog 96:=⟨_,Tryz.func96,rfl,by kernel_rfl⟩
@[go_sem] theorem fn97:isFn Tryz.prog 97:=⟨_,Tryz.func97,rfl,by kernel_rfl⟩
@[go_sem] theorem fn98:isFn Tryz.prog 98:=⟨_,Tryz.func98,rfl,by kernel_rfl⟩
@[go_sem] theorem fn99:isFn Tryz.prog 99:=⟨_,Tryz.func99,rfl,by kernel_rfl⟩
@[go_sem] theorem ZsD:isFn Tryz.prog 100:=⟨_,Tryz.func100,rfl,by kernel_rfl⟩
@[go_sem] theorem ZsE:isFn Tryz.prog 101:=⟨_,Tryz.func101,rfl,by kernel_rfl⟩
@[go_sem] theorem ZsF:isFn Tryz.prog 102:=⟨_,Tryz.func102,rfl,by kernel_rfl⟩
@[go_sem] theorem ZsG:isFn Tryz.prog 103:=⟨_,Tryz.func103,rfl,by kernel_rfl⟩
@[go_sem] theorem ZsH:isFn Tryz.prog 104:=⟨_,Tryz.func104,rfl,by kernel_rfl⟩
@[go_sem] theorem ZsI:isFn Tryz.prog 105:=⟨_,Tryz.func105,rfl,by kernel_rfl⟩
@[go_sem] theorem ZsJ:isFn Tryz.prog 106:=⟨_,Tryz.func106,rfl,by kernel_rfl⟩
@[go_sem] theorem ZsK:isFn Tryz.prog 107:=⟨_,Tryz.func107,rfl,by kernel_rfl⟩
@[go_sem] theorem ZsL:isFn Tryz.prog 108:=⟨_,Tryz.func108,rfl,by kernel_rfl⟩
@[go_sem] theorem ZsM:isFn Tryz.prog 109:=⟨_,Tryz.func109,rfl,by kernel_rfl⟩
@[go_sem] theorem ZsN:isFn Tryz.prog 110:=⟨_,Tryz.func110,rfl,by kernel_rfl⟩
@[go_sem] theorem ZsO:isFn Tryz.prog 111:=⟨_,Tryz.func111,rfl,by kernel_rfl⟩
@[go_sem] theorem ZsP:isFn Tryz.prog 112:=⟨_,Tryz.func112,rfl,by kernel_rfl⟩
@[go_sem] theorem ZsQ:isFn Tryz.prog 113:=⟨_,Tryz.func113,rfl,by kernel_rfl⟩
@[go_sem] theorem ZsR:isFn Tryz.prog 114:=⟨_,Tryz.func114,rfl,by kernel_rfl⟩
@[go_sem] theorem ZsS:isFn Tryz.prog 115:=⟨_,Tryz.func115,rfl,by kernel_rfl⟩
@[go_sem] theorem ZsT:isFn Tryz.prog 116:=⟨_,Tryz.func116,rfl,by kernel_rfl⟩
@[go_sem] theorem ZsU:isFn Tryz.prog 117:=⟨_,Tryz.func117,rfl,by kernel_rfl⟩
@[go_sem] theorem ZsV:isFn Tryz.prog 118:=⟨_,Tryz.func118,rfl,by kernel_rfl⟩
@[go_sem] theorem ZsW:isFn Tryz.prog 119:=⟨_,Tryz.func119,rfl,by kernel_rfl⟩
@[go_sem] theorem ZsX:isFn Tryz.prog 120:=⟨_,Tryz.func120,rfl,by kernel_rfl⟩
@[go_sem] theorem ZsY:isFn Tryz.prog 121:=⟨_,Tryz.func121,rfl,by kernel_rfl⟩
@[go_sem] theorem ZsZ:isFn Tryz.prog 122:=⟨_,Tryz.func122,rfl,by kernel_rfl⟩
@[go_sem] theorem Zs0:isFn Tryz.prog 123:=⟨_,Tryz.func123,rfl,by kernel_rfl⟩
@[go_sem] theorem Zs1:isFn Tryz.prog 124:=⟨_,Tryz.func124,rfl,by kernel_rfl⟩
@[go_sem] theorem Zs2:isFn Tryz.prog 125:=⟨_,Tryz.func125,rfl,by kernel_rfl⟩
@[go_sem] theorem Zs3:isFn Tryz.prog 126:=⟨_,Tryz.func126,rfl,by kernel_rfl⟩
@[go_sem] theorem Zs4:isFn Tryz.prog 127:=⟨_,Tryz.func127,rfl,by kernel_rfl⟩
@[go_sem] theorem Zs5:isFn Tryz.prog 128:=⟨_,Tryz.func128,rfl,by kernel_rfl⟩
@[go_sem] theorem Zs6:isFn Tryz.prog 129:=⟨_,Tryz.func129,rfl,by kernel_rfl⟩
@[go_sem] theorem Zs7:isFn Tryz.prog 130:=⟨_,Tryz.func130,rfl,by kernel_rfl⟩
@[go_sem] theorem Zs8:isFn Tryz.prog 131:=⟨_,Tryz.func131,rfl,by kernel_rfl⟩
@[go_sem] theorem Zs9:isFn Tryz.prog 132:=⟨_,Tryz.func132,rfl,by kernel_rfl⟩
@[go_sem] theorem Zta:isFn Tryz.prog 133:=⟨_,Tryz.func133,rfl,by kernel_rfl⟩
@[go_sem] theorem Ztb:isFn Tryz.prog 134:=⟨_,Tryz.func134,rfl,by kernel_rfl⟩
@[go_sem] theorem Ztc:isFn Tryz.prog 135:=⟨_,Tryz.func135,rfl,by kernel_rfl⟩
@[go_sem] theorem Ztd:isFn Tryz.prog 136:=⟨_,Tryz.func136,rfl,by kernel_rfl⟩
@[go_sem] theorem Zte:isFn Tryz.prog 137:=⟨_,Tryz.func137,rfl,by kernel_rfl⟩
@[go_sem] theorem Ztf:isFn Tryz.prog 138:=⟨_,Tryz.func138,rfl,by kernel_rfl⟩
@[go_sem] theorem Ztg:isFn Tryz.prog 139:=⟨_,Tryz.func139,rfl,by kernel_rfl⟩
@[go_sem] theorem Zth:isFn Tryz.prog 140:=⟨_,Tryz.func140,rfl,by kernel_rfl⟩
@[go_sem] theorem Zti:isFn Tryz.prog 141:=⟨_,Tryz.func141,rfl,by kernel_rfl⟩
@[go_sem] theorem Ztj:isFn Tryz.prog 142:=⟨_,Tryz.func142,rfl,by kernel_rfl⟩
@[go_sem] theorem Ztk:isFn Tryz.prog 143:=⟨_,Tryz.func143,rfl,by kernel_rfl⟩
@[go_sem] theorem Ztl:isFn Tryz.prog 144:=⟨_,Tryz.func144,rfl,by kernel_rfl⟩
@[go_sem] theorem Ztm:isFn Tryz.prog 145:=⟨_,Tryz.func145,rfl,by kernel_rfl⟩
@[go_sem] theorem Ztn:isFn Tryz.prog 146:=⟨_,Tryz.func146,rfl,by kernel_rfl⟩
@[go_sem] theorem Zto:isFn Tryz.prog 147:=⟨_,Tryz.func147,rfl,by kernel_rfl⟩
@[go_sem] theorem Ztp:isFn Tryz.prog 148:=⟨_,Tryz.func148,rfl,by kernel_rfl⟩
@[go_sem] theorem Ztq:isFn Tryz.prog 149:=⟨_,Tryz.func149,rfl,by kernel_rfl⟩
@[go_sem] theorem Ztr:isFn Tryz.prog 150:=⟨_,Tryz.func150,rfl,by kernel_rfl⟩
@[go_sem] theorem Zts:isFn Tryz.prog 151:=⟨_,Tryz.func151,rfl,by kernel_rfl⟩
@[go_sem] theorem Ztt:isFn Tryz.prog 152:=⟨_,Tryz.func152,rfl,by kernel_rfl⟩
@[go_sem] theorem Ztu:isFn Tryz.prog 153:=⟨_,Tryz.func153,rfl,by kernel_rfl⟩
@[go_sem] theorem Ztv:isFn Tryz.prog 154:=⟨_,Tryz.func154,rfl,by kernel_rfl⟩
@[go_sem] theorem Ztw:isFn Tryz.prog 155:=⟨_,Tryz.func155,rfl,by kernel_rfl⟩
@[go_sem] theorem Ztx:isFn Tryz.prog 156:=⟨_,Tryz.func156,rfl,by kernel_rfl⟩
@[go_sem] theorem Zty:isFn Tryz.prog 157:=⟨_,Tryz.func157,rfl,by kernel_rfl⟩
@[go_sem] theorem Ztz:isFn Tryz.prog 158:=⟨_,Tryz.func158,rfl,by kernel_rfl⟩
@[go_sem] theorem ZtA:isFn Tryz.prog 159:=⟨_,Tryz.func159,rfl,by kernel_rfl⟩
@[go_sem] theorem ZtB:isFn Tryz.prog 160:=⟨_,Tryz.func160,rfl,by kernel_rfl⟩
@[go_sem] theorem ZtC:isFn Tryz.prog 161:=⟨_,Tryz.func161,rfl,by kernel_rfl⟩
@[go_sem] theorem ZtD:isFn Tryz.prog 162:=⟨_,Tryz.func162,rfl,by kernel_rfl⟩
@[go_sem] theorem ZtE:isFn Tryz.prog 163:=⟨_,Tryz.func163,rfl,by kernel_rfl⟩
@[go_sem] theorem ZtF:isFn Tryz.prog 164:=⟨_,Tryz.func164,rfl,by kernel_rfl⟩
@[go_sem] theorem ZtG:isFn Tryz.prog 165:=⟨_,Tryz.func165,rfl,by kernel_rfl⟩
@[go_sem] theorem ZtH:isFn Tryz.prog 166:=⟨_,Tryz.func166,rfl,by kernel_rfl⟩
@[go_sem] theorem ZtI:isFn Tryz.prog 167:=⟨_,Tryz.func167,rfl,by kernel_rfl⟩
@[go_sem] theorem ZtJ:isFn Tryz.prog 168:=⟨_,Tryz.func168,rfl,by kernel_rfl⟩
@[go_sem] theorem ZtK:isFn Tryz.prog 169:=⟨_,Tryz.func169,rfl,by kernel_rfl⟩
@[go_sem] theorem ZtL:isFn Tryz.prog 170:=⟨_,Tryz.func170,rfl,by kernel_rfl⟩
@[go_sem] theorem ZtM:isFn Tryz.prog 171:=⟨_,Tryz.func171,rfl,by kernel_rfl⟩
@[go_sem] theorem ZtN:isFn Tryz.prog 172:=⟨_,Tryz.func172,rfl,by kernel_rfl⟩
@[go_sem] theorem ZtO:isFn Tryz.prog 173:=⟨_,Tryz.func173,rfl,by kernel_rfl⟩
@[go_sem] theorem ZtP:isFn Tryz.prog 174:=⟨_,Tryz.func174,rfl,by kernel_rfl⟩
@[go_sem] theorem ZtQ:isFn Tryz.prog 175:=⟨_,Tryz.func175,rfl,by kernel_rfl⟩
@[go_sem] theorem ZtR:isFn Tryz.prog 176:=⟨_,Tryz.func176,rfl,by kernel_rfl⟩
@[go_sem] theorem ZtS:isFn Tryz.prog 177:=⟨_,Tryz.func177,rfl,by kernel_rfl⟩
@[go_sem] theorem ZtT:isFn Tryz.prog 178:=⟨_,Tryz.func178,rfl,by kernel_rfl⟩
@[go_sem] theorem ZtU:isFn Tryz.prog 179:=⟨_,Tryz.func179,rfl,by kernel_rfl⟩
@[go_sem] theorem ZtV:isFn Tryz.prog 180:=⟨_,Tryz.func180,rfl,by kernel_rfl⟩
@[go_sem] theorem ZtW:isFn Tryz.prog 181:=⟨_,Tryz.func181,rfl,by kernel_rfl⟩
@[go_sem] theorem ZtX:isFn Tryz.prog 182:=⟨_,Tryz.func182,rfl,by kernel_rfl⟩
@[go_sem] theorem ZtY:isFn Tryz.prog 183:=⟨_,Tryz.func183,rfl,by kernel_rfl⟩
@[go_sem] theorem ZtZ:isFn Tryz.prog 184:=⟨_,Tryz.func184,rfl,by kernel_rfl⟩
@[go_sem] theorem Zt0:isFn Tryz.prog 185:=⟨_,Tryz.func185,rfl,by kernel_rfl⟩
@[go_sem] theorem Zt1:isFn Tryz.prog 186:=⟨_,Tryz.func186,rfl,by kernel_rfl⟩
@[go_sem] theorem Zt2:isFn Tryz.prog 187:=⟨_,Tryz.func187,rfl,by kernel_rfl⟩
@[go_sem] theorem Zt3:isFn Tryz.prog 188:=⟨_,Tryz.func188,rfl,by kernel_rfl⟩
@[go_sem] theorem Zt4:isFn Tryz.prog 189:=⟨_,Tryz.func189,rfl,by kernel_rfl⟩
@[go_sem] theorem Zt5:isFn Tryz.prog 190:=⟨_,Tryz.func190,rfl,by kernel_rfl⟩
@[go_sem] theorem Zt6:isFn Tryz.prog 191:=⟨_,Tryz.func191,rfl,by kernel_rfl⟩
@[go_sem] theorem Zt7:isFn Tryz.prog 192:=⟨_,Tryz.func192,rfl,by kernel_rfl⟩
@[go_sem] theorem Zt8:isFn Tryz.prog 193:=⟨_,Tryz.func193,rfl,by kernel_rfl⟩
@[go_sem] theorem Zt9:isFn Tryz.prog 194:=⟨_,Tryz.func194,rfl,by kernel_rfl⟩
@[go_sem] theorem Zua:isFn Tryz.prog 195:=⟨_,Tryz.func195,rfl,by kernel_rfl⟩
@[go_sem] theorem Zub:isFn Tryz.prog 196:=⟨_,Tryz.func196,rfl,by kernel_rfl⟩
@[go_sem] theorem Zuc:isFn Tryz.prog 197:=⟨_,Tryz.func197,rfl,by kernel_rfl⟩
@[go_sem] theorem Zud:isFn Tryz.prog 198:=⟨_,Tryz.func198,rfl,by kernel_rfl⟩
@[go_sem] theorem Zue:isFn Tryz.prog 199:=⟨_,Tryz.func199,rfl,by kernel_rfl⟩
@[go_sem] theorem Zuf:isFn Tryz.prog 201:=⟨_,Tryz.func201,rfl,by kernel_rfl⟩
@[go_sem] theorem Zug:isFn Tryz.prog 202:=⟨_,Tryz.func202,rfl,by kernel_rfl⟩
@[go_sem] theorem Zuh:isFn Tryz.prog 203:=⟨_,Tryz.func203,rfl,by kernel_rfl⟩
@[go_sem] theorem Zui:isFn Tryz.prog 204:=⟨_,Tryz.func204,rfl,by kernel_rfl⟩
@[go_sem] theorem Zuj:isFn Tryz.prog 205:=⟨_,Tryz.func205,rfl,by kernel_rfl⟩
@[go_sem] theorem Zuk:isFn Tryz.prog 207:=⟨_,Tryz.func207,rfl,by kernel_rfl⟩
@[go_sem] theorem Zul:isFn Tryz.prog 208:=⟨_,Tryz.func208,rfl,by kernel_rfl⟩
@[go_sem] theorem Zum:isFn Tryz.prog 209:=⟨_,Tryz.func209,rfl,by kernel_rfl⟩
@[go_sem] theorem Zun:isFn Tryz.prog 210:=⟨_,Tryz.func210,rfl,by kernel_rfl⟩
@[go_sem] theorem Zuo:isFn Tryz.prog 211:=⟨_,Tryz.func211,rfl,by kernel_rfl⟩
@[go_sem] theorem Zup:isFn Tryz.prog 212:=⟨_,Tryz.func212,rfl,by kernel_rfl⟩
@[go_sem] theorem Zuq:isFn Tryz.prog 213:=⟨_,Tryz.func213,rfl,by kernel_rfl⟩
@[go_sem] theorem Zur:isFn Tryz.prog 214:=⟨_,Tryz.func214,rfl,by kernel_rfl⟩
@[go_sem] theorem Zus:isFn Tryz.prog 215:=⟨_,Tryz.func215,rfl,by kernel_rfl⟩
@[go_sem] theorem Zut:isFn Tryz.prog 216:=⟨_,Tryz.func216,rfl,by kernel_rfl⟩
@[go_sem] theorem Zuu:isFn Tryz.prog 217:=⟨_,Tryz.func217,rfl,by kernel_rfl⟩
@[go_sem] theorem Zuv:isFn Tryz.prog 218:=⟨_,Tryz.func218,rfl,by kernel_rfl⟩
@[go_sem] theorem Zuw:isFn Tryz.prog 219:=⟨_,Tryz.func219,rfl,by kernel_rfl⟩
@[go_sem] theorem Zux:isFn Tryz.prog 220:=⟨_,Tryz.func220,rfl,by kernel_rfl⟩
@[go_sem] theorem Zuy:isFn Tryz.prog 221:=⟨_,Tryz.func221,rfl,by kernel_rfl⟩
@[go_sem] theorem Zuz:isFn Tryz.prog 222:=⟨_,Tryz.func222,rfl,by kernel_rfl⟩
@[go_sem] theorem ZuA:isFn Tryz.prog 223:=⟨_,Tryz.func223,rfl,by kernel_rfl⟩
@[go_sem] theorem ZuB:isFn Tryz.prog 224:=⟨_,Tryz.func224,rfl,by kernel_rfl⟩
@[go_sem] theorem ZuC:isFn Tryz.prog 225:=⟨_,Tryz.func225,rfl,by kernel_rfl⟩
@[go_sem] theorem ZuD:isFn Tryz.prog 226:=⟨_,Tryz.func226,rfl,by kernel_rfl⟩
@[go_sem] theorem ZuE:isFn Tryz.prog 227:=⟨_,Tryz.func227,rfl,by kernel_rfl⟩
@[go_sem] theorem ZuF:isFn Tryz.prog 228:=⟨_,Tryz.func228,rfl,by kernel_rfl⟩
@[go_sem] theorem ZuG:isFn Tryz.prog 229:=⟨_,Tryz.func229,rfl,by kernel_rfl⟩
@[go_sem] theorem ZuH:isFn Tryz.prog 230:=⟨_,Tryz.func230,rfl,by kernel_rfl⟩
@[go_sem] theorem ZuI:isFn Tryz.prog 231:=⟨_,Tryz.func231,rfl,by kernel_rfl⟩
@[go_sem] theorem ZuJ:isFn Tryz.prog 232:=⟨_,Tryz.func232,rfl,by kernel_rfl⟩
@[go_sem] theorem ZuK:isFn Tryz.prog 233:=⟨_,Tryz.func233,rfl,by kernel_rfl⟩
@[go_sem] theorem ZuL:isFn Tryz.prog 234:=⟨_,Tryz.func234,rfl,by kernel_rfl⟩
@[go_sem] theorem ZuM:isFn Tryz.prog 235:=⟨_,Tryz.func235,rfl,by kernel_rfl⟩
@[go_sem] theorem ZuN:isFn Tryz.prog 236:=⟨_,Tryz.func236,rfl,by kernel_rfl⟩
@[go_sem] theorem ZuO:isFn Tryz.prog 237:=⟨_,Tryz.func237,rfl,by kernel_rfl⟩
@[go_sem] theorem ZuP:isFn Tryz.prog 238:=⟨_,Tryz.func238,rfl,by kernel_rfl⟩
@[go_sem] theorem ZuQ:isFn Tryz.prog 243:=⟨_,Tryz.func243,rfl,by kernel_rfl⟩
@[go_sem] theorem ZuR:isFn Tryz.prog 244:=⟨_,Tryz.func244,rfl,by kernel_rfl⟩
@[go_sem] theorem ZuS:isFn Tryz.prog 245:=⟨_,Tryz.func245,rfl,by kernel_rfl⟩
@[go_sem] theorem ZuT:isFn Tryz.prog 247:=⟨_,Tryz.func247,rfl,by kernel_rfl⟩
@[go_sem] theorem ZuU:isFn Tryz.prog 248:=⟨_,Tryz.func248,rfl,by kernel_rfl⟩
@[go_sem] theorem ZuV:isFn Tryz.prog 249:=⟨_,Tryz.func249,rfl,by kernel_rfl⟩
@[go_sem] theorem ZuW:isFn Tryz.prog 250:=⟨_,Tryz.func250,rfl,by kernel_rfl⟩
@[go_sem] theorem ZuX:isFn Tryz.prog 251:=⟨_,Tryz.func251,rfl,by kernel_rfl⟩
@[go_sem] theorem ZuY:isFn Tryz.prog 252:=⟨_,Tryz.func252,rfl,by kernel_rfl⟩
@[go_sem] theorem ZuZ:isFn Tryz.prog 253:=⟨_,Tryz.func253,rfl,by kernel_rfl⟩
@[go_sem] theorem Zu0:isFn Tryz.prog 255:=⟨_,Tryz.func255,rfl,by kernel_rfl⟩
@[go_sem] theorem Zu1:isFn Tryz.prog 256:=⟨_,Tryz.func256,rfl,by kernel_rfl⟩
@[go_sem] theorem Zu2:isFn Tryz.prog 257:=⟨_,Tryz.func257,rfl,by kernel_rfl⟩
@[go_sem] theorem Zu3:isFn Tryz.prog 258:=⟨_,Tryz.func258,rfl,by kernel_rfl⟩
instance:PlainC cInt:=⟨fun x q h=>by simp only [cInt,List.mem_singleton] at h; subst h; rfl⟩
instance:FlatC cInt:=⟨fun x q h=>by simp only [cInt,List.mem_singleton] at h; subst h; rfl⟩
instance:PlainC cStr:=⟨fun x q h=>by simp only [cStr,List.mem_singleton] at h; subst h; rfl⟩
instance:FlatC cStr:=⟨fun x q h=>by simp only [cStr,List.mem_singleton] at h; subst h; rfl⟩
instance:PlainC cBool:=⟨fun x q h=>by simp only [cBool,List.mem_singleton] at h; subst h; rfl⟩
instance:FlatC cBool:=⟨fun x q h=>by simp only [cBool,List.mem_singleton] at h; subst h; rfl⟩
structure YB8 where
 v:Int
deriving DecidableEq
def cB8 (x:YB8):List PV:=[v8 x.v]
instance:Zbe YB8:=⟨cB8⟩
instance:PlainC cB8:=⟨fun x q h=>by simp only [cB8,List.mem_singleton] at h; subst h; rfl⟩
instance:FlatC cB8:=⟨fun x q h=>by simp only [cB8,List.mem_singleton] at h; subst h; rfl⟩
structure ZmN where
 b:List YB8
 i:Int
 h:Int
deriving DecidableEq
def Zii (x:ZmN):List PV:=[.sl (x.b.map cB8),vi x.i,vi x.h]
instance:Zbe ZmN:=⟨Zii⟩
instance:PlainC Zii:=⟨fun x q h=>by simp only [Zii,List.mem_cons,List.not_mem_nil,or_false] at h; (repeat' (first | (rcases h with rfl | h; rfl) | (subst h; rfl)))⟩
instance:Zbe YLabel:=⟨cLabel⟩
instance:PlainC cLabel:=⟨fun x q h=>by simp only [cLabel,List.mem_cons,List.not_mem_nil,or_false] at h; (repeat' (first | (rcases h with rfl | h; rfl) | (subst h; rfl)))⟩
instance:FlatC cLabel:=⟨fun x q h=>by simp only [cLabel,List.mem_cons,List.not_mem_nil,or_false] at h; (repeat' (first | (rcases h with rfl | h; rfl) | (subst h; rfl)))⟩
instance:Zbe YParcel:=⟨cParcel⟩
instance:PlainC cParcel:=⟨fun x q h=>by simp only [cParcel,List.mem_cons,List.not_mem_nil,or_false] at h; (repeat' (first | (rcases h with rfl | h; rfl) | (subst h; rfl)))⟩
instance:Zbe YZone:=⟨cZone⟩
instance:PlainC cZone:=⟨fun x q h=>by simp only [cZone,List.mem_cons,List.not_mem_nil,or_false] at h; (repeat' (first | (rcases h with rfl | h; rfl) | (subst h; rfl)))⟩
instance:FlatC cZone:=⟨fun x q h=>by simp only [cZone,List.mem_cons,List.not_mem_nil,or_false] at h; (repeat' (first | (rcases h with rfl | h; rfl) | (subst h; rfl)))⟩
instance:Zbe YRate:=⟨cRate⟩
instance:PlainC cRate:=⟨fun x q h=>by simp only [cRate,List.mem_cons,List.not_mem_nil,or_false] at h; (repeat' (first | (rcases h with rfl | h; rfl) | (subst h; rfl)))⟩
instance:FlatC cRate:=⟨fun x q h=>by simp only [cRate,List.mem_cons,List.not_mem_nil,or_false] at h; (repeat' (first | (rcases h with rfl | h; rfl) | (subst h; rfl)))⟩
instance:Zbe YLeg:=⟨cLeg⟩
instance:PlainC cLeg:=⟨fun x q h=>by simp only [cLeg,List.mem_cons,List.not_mem_nil,or_false] at h; (repeat' (first | (rcases h with rfl | h; rfl) | (subst h; rfl)))⟩
instance:FlatC cLeg:=⟨fun x q h=>by simp only [cLeg,List.mem_cons,List.not_mem_nil,or_false] at h; (repeat' (first | (rcases h with rfl | h; rfl) | (subst h; rfl)))⟩
instance:Zbe YNetwork:=⟨cNetwork⟩
instance:PlainC cNetwork:=⟨fun x q h=>by simp only [cNetwork,List.mem_cons,List.not_mem_nil,or_false] at h; (repeat' (first | (rcases h with rfl | h; rfl) | (subst h; rfl)))⟩
instance:Zbe YTrip:=⟨cTrip⟩
instance:PlainC cTrip:=⟨fun x q h=>by simp only [cTrip,List.mem_cons,List.not_mem_nil,or_false] at h; (repeat' (first | (rcases h with rfl | h; rfl) | (subst h; rfl)))⟩
instance:FlatC cTrip:=⟨fun x q h=>by simp only [cTrip,List.mem_cons,List.not_mem_nil,or_false] at h; (repeat' (first | (rcases h with rfl | h; rfl) | (subst h; rfl)))⟩
instance:Zbe YBooking:=⟨cBooking⟩
instance:PlainC cBooking:=⟨fun x q h=>by simp only [cBooking,List.mem_cons,List.not_mem_nil,or_false] at h; (repeat' (first | (rcases h with rfl | h; rfl) | (subst h; rfl)))⟩
instance:FlatC cBooking:=⟨fun x q h=>by simp only [cBooking,List.mem_cons,List.not_mem_nil,or_false] at h; (repeat' (first | (rcases h with rfl | h; rfl) | (subst h; rfl)))⟩
instance:Zbe YScan:=⟨cScan⟩
instance:PlainC cScan:=⟨fun x q h=>by simp only [cScan,List.mem_cons,List.not_mem_nil,or_false] at h; (repeat' (first | (rcases h with rfl | h; rfl) | (subst h; rfl)))⟩
instance:FlatC cScan:=⟨fun x q h=>by simp only [cScan,List.mem_cons,List.not_mem_nil,or_false] at h; (repeat' (first | (rcases h with rfl | h; rfl) | (subst h; rfl)))⟩
instance:Zbe YOrder:=⟨cOrder⟩
instance:PlainC cOrder:=⟨fun x q h=>by simp only [cOrder,List.mem_cons,List.not_mem_nil,or_false] at h; (repeat' (first | (rcases h with rfl | h; rfl) | (subst h; rfl)))⟩
instance:Zbe YWorld:=⟨cWorld⟩
instance:PlainC cWorld:=⟨fun x q h=>by simp only [cWorld,List.mem_cons,List.not_mem_nil,or_false] at h; (repeat' (first | (rcases h with rfl | h; rfl) | (subst h; rfl)))⟩
instance:Zbe YLine:=⟨cLine⟩
instance:PlainC cLine:=⟨fun x q h=>by simp only [cLine,List.mem_cons,List.not_mem_nil,or_false] at h; (repeat' (first | (rcases h with rfl | h; rfl) | (subst h; rfl)))⟩
instance:FlatC cLine:=⟨fun x q h=>by simp only [cLine,List.mem_cons,List.not_mem_nil,or_false] at h; (repeat' (first | (rcases h with rfl | h; rfl) | (subst h; rfl)))⟩
instance:Zbe YAct:=⟨cAct⟩
instance:PlainC cAct:=⟨fun x q h=>by simp only [cAct,List.mem_cons,List.not_mem_nil,or_false] at h; (repeat' (first | (rcases h with rfl | h; rfl) | (subst h; rfl)))⟩
instance:Zbe YOffice:=⟨cOffice⟩
instance:PlainC cOffice:=⟨fun x q h=>by simp only [cOffice,List.mem_cons,List.not_mem_nil,or_false] at h; (repeat' (first | (rcases h with rfl | h; rfl) | (subst h; rfl)))⟩
instance:Zbe YItem:=⟨cItem⟩
instance:PlainC cItem:=⟨fun x q h=>by simp only [cItem,List.mem_cons,List.not_mem_nil,or_false] at h; (repeat' (first | (rcases h with rfl | h; rfl) | (subst h; rfl)))⟩
instance:FlatC cItem:=⟨fun x q h=>by simp only [cItem,List.mem_cons,List.not_mem_nil,or_false] at h; (repeat' (first | (rcases h with rfl | h; rfl) | (subst h; rfl)))⟩
instance:Zbe YChute:=⟨cChute⟩
instance:PlainC cChute:=⟨fun x q h=>by simp only [cChute,List.mem_cons,List.not_mem_nil,or_false] at h; (repeat' (first | (rcases h with rfl | h; rfl) | (subst h; rfl)))⟩
instance:Zbe YInlet:=⟨cInlet⟩
instance:PlainC cInlet:=⟨fun x q h=>by simp only [cInlet,List.mem_cons,List.not_mem_nil,or_false] at h; (repeat' (first | (rcases h with rfl | h; rfl) | (subst h; rfl)))⟩
instance:Zbe YCentre:=⟨cCentre⟩
instance:PlainC cCentre:=⟨fun x q h=>by simp only [cCentre,List.mem_cons,List.not_mem_nil,or_false] at h; (repeat' (first | (rcases h with rfl | h; rfl) | (subst h; rfl)))⟩
instance:Zbe YThing:=⟨cThing⟩
instance:PlainC cThing:=⟨fun x q h=>by simp only [cThing,List.mem_cons,List.not_mem_nil,or_false] at h; (repeat' (first | (rcases h with rfl | h; rfl) | (subst h; rfl)))⟩
instance:FlatC cThing:=⟨fun x q h=>by simp only [cThing,List.mem_cons,List.not_mem_nil,or_false] at h; (repeat' (first | (rcases h with rfl | h; rfl) | (subst h; rfl)))⟩
instance:Zbe YBelief:=⟨cBelief⟩
instance:PlainC cBelief:=⟨fun x q h=>by simp only [cBelief,List.mem_cons,List.not_mem_nil,or_false] at h; (repeat' (first | (rcases h with rfl | h; rfl) | (subst h; rfl)))⟩
attribute [go_sem] cInt cStr cBool cB8 Zii cLabel cParcel cZone cRate cLeg cNetwork cTrip cBooking cScan cOrder cWorld cLine cAct cOffice cItem cChute cInlet cCentre cThing cBelief Zbe.c
theorem Zls {n:Nat} {a b a2 b2:Int}:eqT Tryz.prog (n+3) 55 [vi a,vi b] [vi a2,vi b2]=some (decide ((⟨a,b⟩:YTrip)=(⟨a2,b2⟩:YTrip))):=by
 simp only [eqT,Tryz.underlying3,Tryz.underlying55,ts55,Program.fieldsOf,go_sem]
 simp [tc55,tc3]
 try rfl
@[go_sem] theorem ZrR {a b a2 b2:Int} {KR:PV→Prop}:eqK Tryz.prog .eql 55 [vi a,vi b] [vi a2,vi b2] KR=KR (vb (decide ((⟨a,b⟩:YTrip)=(⟨a2,b2⟩:YTrip)))):=by unfold eqK; rw [show (10000:Nat)=9997+3 from rfl,Zls,Tryz.underlying55]; simp only [te55,true_and]
@[go_sem] theorem ZrT {a b a2 b2:Int} {KR:PV→Prop}:eqK Tryz.prog .neq 55 [vi a,vi b] [vi a2,vi b2] KR=KR (vb (!decide ((⟨a,b⟩:YTrip)=(⟨a2,b2⟩:YTrip)))):=by unfold eqK; rw [show (10000:Nat)=9997+3 from rfl,Zls,Tryz.underlying55]; simp only [te55,true_and]
theorem Zho {n:Nat} {a b c d a2 b2 c2 d2:Int}:eqT Tryz.prog (n+3) 135 [vi a,vi b,vi c,vi d] [vi a2,vi b2,vi c2,vi d2]=some (decide ((⟨a,⟨b,c⟩,d⟩:YBooking)=(⟨a2,⟨b2,c2⟩,d2⟩:YBooking))):=by
 simp only [eqT,Tryz.underlying3,Tryz.underlying135,Zsl,Tryz.underlying55,ts55,Program.fieldsOf,go_sem]
 simp [Zsj,tc55,tc3]
 try rfl
@[go_sem] theorem Zqf {a b c d a2 b2 c2 d2:Int} {KR:PV→Prop}:eqK Tryz.prog .eql 135 [vi a,vi b,vi c,vi d] [vi a2,vi b2,vi c2,vi d2] KR=KR (vb (decide ((⟨a,⟨b,c⟩,d⟩:YBooking)=(⟨a2,⟨b2,c2⟩,d2⟩:YBooking)))):=by unfold eqK; rw [show (10000:Nat)=9997+3 from rfl,Zho,Tryz.underlying135]; simp only [ZrG,true_and]
@[go_sem] theorem Zqx {a b c d a2 b2 c2 d2:Int} {KR:PV→Prop}:eqK Tryz.prog .neq 135 [vi a,vi b,vi c,vi d] [vi a2,vi b2,vi c2,vi d2] KR=KR (vb (!decide ((⟨a,⟨b,c⟩,d⟩:YBooking)=(⟨a2,⟨b2,c2⟩,d2⟩:YBooking)))):=by unfold eqK; rw [show (10000:Nat)=9997+3 from rfl,Zho,Tryz.underlying135]; simp only [ZrG,true_and]
def frz (t:List PV) (m:Mem):Option Unit:=some ()
theorem Cuts.trans {n0:Nat} {t t1 t2:List PV} {m m1 m2:Mem} (h:Cuts n0 t m t1 m1) (k:Cuts n0 t1 m1 t2 m2):Cuts n0 t m t2 m2:=by
 induction h with
 | one h=>exact .two h k
 | two h h' ih=>exact .two h (ih k)
theorem Zn2 {P:Program} {n0:Nat} {Q:Exit→List PV→Mem→Prop} {t T:List PV} {m M:Mem} {α β:Type} {F:Unit→Option α} {K:α→Option β} {r:β} {i:Nat} {ops:Array Oper} {draw:Bool}
 (H:((frz T M).bind F).bind K=some r) (hc:Cuts n0 t m T M) (hk:(F ()).bind K=some r→pwp P n0 (.region i ops draw) Q T M):pwp P n0 (.region i ops draw) Q t m:=by
 rcases hk H with h | ⟨t1,m1,h1,h2⟩
 ·exact .inr ⟨T,M,hc,h⟩
 ·exact .inr ⟨t1,m1,hc.trans h1,h2⟩
def drwL (wd:Nat) (fl:List Nat):Option Unit:=some ()
theorem ZlU {P:Program} {n0:Nat} {Q:Exit→List PV→Mem→Prop} {t:List PV} {m:Mem} {α β:Type} {wd:Nat} {fl:List Nat} {F:Unit→Option α} {K:α→Option β} {r:β} {id:Nat} {ops:List Oper}
 (H:((drwL wd fl).bind F).bind K=some r) (hwd:decide (0<wd)=true) (h1:P.follows .mixedOrders=true) (hk:(F ()).bind K=some r→popsD P wd m.length fl ops.toArray (endD ops (Q .normal)) 0 ops [] t m):pwp P n0 (.region id ops.toArray true) Q t m:=pwp_drawE hwd h1 (hk H)
theorem Zjm {m m':Mem} {rs:List (Option Nat)} {α:Type} {f:α→List PV} [PlainC f] {xs:List α} {x:α} {cs:List PV} {k k' n:Nat} {T:TK} (hm:look m k=some ⟨T,k',(xs.map f).set n cs⟩) (hc:f x=cs) (hd:dropped (rho rs) m' k):CutC (rho rs) m m' (.ms k) (.sl ((xs.set n x).map f)):=by
 subst hc
 refine cutC_fms (f:=f) (xs:=xs.set n x) (T:=T) (k':=k') ?_ hd
 rw [hm,List.map_set]
theorem Zln {m m':Mem} {rs:List (Option Nat)} {α:Type} {f:α→List PV} [PlainC f] {xs:List α} {a b:Int} {k k' A B:Nat} {T:TK} (hm:look m k=some ⟨T,k',xs.map f⟩) (hA:A=a.toNat) (hB:B=b.toNat) (hd:dropped (rho rs) m' k):CutC (rho rs) m m' (.ss k A B) (.sl ((subL xs a b).map f)):=by
 subst hA hB
 have:=CutC.fss (ρ:=rho rs) (m:=m) (m':=m') k a.toNat b.toNat ⟨T,k',xs.map f⟩ (look_iff.1 hm) rowC_map hd
 simpa only [drop_mp,take_mp,subL] using this
def rgI {α:Type} (xs:List α) (i:Int):Option α:=getI xs i
theorem rgH {α β γ:Type} {xs:List α} {i:Int} {F:α→Option β} {K:β→Option γ} {r:γ} (H:((rgI xs i).bind F).bind K=some r):∃ x,getI xs i=some x∧(F x).bind K=some r:=Hcall H
theorem ZgM {α:Type} {f:α→List PV} {xs:List α} {x:α} {i:Int} {cs:List PV} (h:getI xs i=some x):((xs.map f).set i.toNat cs)[i.toNat]?=some cs:=by
 rw [List.getElem?_set_self]
 have:=(List.getElem?_eq_some_iff.1 (getI_some h).2).1
 simpa using this
theorem Zlz {P:Program} {m:Mem} {KR:PV→Prop} {α:Type} [Zbe α] {xs:List α} {x:α} {T:TypeId} {T':TK} {l k' n:Nat} {cs:List PV} {i:Int} {k:IntKind} (h:getI xs i=some x) (hm:look m l=some ⟨T',k',(xs.map Zbe.c).set n cs⟩) (hp:0<elemK P T) (hk:k'=elemK P T) (hK:KR (.be l i.toNat 0)):pIndexAddr P m T (.ms l) (.v (.int k i)) KR:=by
 obtain ⟨h1,h2,h3⟩:=getI_lt h
 obtain ⟨e,hu,he⟩:=elemK_of hp
 rw [he] at hk
 simp only [pIndexAddr,hu,look_live,hm,List.length_map,List.length_set]
 exact ⟨h1,h2,hk,hK⟩
attribute [go_sem] List.length_set List.set_set
def frzL {α:Type} (x:α) (t:α→List PV) (m:α→Mem):Option α:=some x
theorem ZlV {P:Program} {n0:Nat} {Q:Exit→List PV→Mem→Prop} {t:List PV} {m:Mem} {ξ α β:Type} {x:ξ} {T:ξ→List PV} {M:ξ→Mem} {F:ξ→Option α} {K:α→Option β} {r:β} {i:Nat} {ops:Array Oper} {draw:Bool}
 (H:((frzL x T M).bind F).bind K=some r) (hc:Cuts n0 t m (T x) (M x)) (hk:∀ z,(F z).bind K=some r→pwp P n0 (.region i ops draw) Q (T z) (M z)):pwp P n0 (.region i ops draw) Q t m:=by
 rcases hk x H with h | ⟨t1,m1,h1,h2⟩
 ·exact .inr ⟨T x,M x,hc,h⟩
 ·exact .inr ⟨t1,m1,hc.trans h1,h2⟩
def rhoM (ρ:List Nat):Option Unit:=some ()
theorem ZmW {R α β:Type} {P:Program} {ρ:List Nat} {A:Option R} [C:CT P A] {F:Unit→Option α} {G:R→Option α} {K:α→Option β} {r:β} {f:FuncId} {ps:List PV} {io:Bool} {wd ν:Nat} {m:Mem} {KA:PV→Mem→Prop}
 (H:((rhoM ρ).bind F).bind K=some r) (hF:F ()=A.bind G) (hf:C.f=f) (hio:io=true) (hps:ps=C.args.map (renA (sig ρ ν))) (hq:∀ q∈C.args,goodA false q∧lowA C.m0.length q=true) (hn:ρ.Nodup) (hin:inRows (sig ρ ν) m C.m0.length ρ C.m0)
 (hlen:∀ y,C.m0.length≤(C.mem y).length∧(C.mem y).length-C.m0.length≤wd) (hm:∀ y,∀ mb,some mb∈C.mem y→∀ cs∈mb.es,∀ p∈cs,goodC false p) (hg:∀ y,goodV false (C.res y))
 (hk:∀ y,A=some y→(G y).bind K=some r→KA (renV (sig ρ ν) (C.res y)) (putNew (sig ρ ν) ν ((C.mem y).drop ρ.length) (putIn (sig ρ ν) ρ (C.mem y) m))):pCall P io wd ν f ps m KA:=by
 have H':(F ()).bind K=some r:=H
 rw [hF] at H'
 obtain ⟨y,hy,H2⟩:=Hcall H'
 subst hf
 exact .inr ⟨ρ,C.m0,C.args,C.res y,C.mem y,.inl hio,C.ok hy,(hlen y).1,(hlen y).2,hps,hq,hn,hin,hm y,hg y,hk y hy H2⟩
theorem Zlh {R α β:Type} {P:Program} {ρ:List Nat} {A:Option R} [C:CT P A] {F:Unit→Option α} {G:R→Option α} {K:α→Option β} {r:β} {f:FuncId} {ps:List PV} {wd ν:Nat} {m:Mem} {KA:List Nat→PV→Mem→Prop}
 (H:((rhoM ρ).bind F).bind K=some r) (hF:F ()=A.bind G) (hf:C.f=f) (hps:ps=C.args.map (renA (sig ρ ν))) (hq:∀ q∈C.args,goodA false q∧lowA C.m0.length q=true) (hn:ρ.Nodup) (hin:inRows (sig ρ ν) m C.m0.length ρ C.m0)
 (hlen:∀ y,C.m0.length≤(C.mem y).length∧(C.mem y).length-C.m0.length≤wd) (hm:∀ y,∀ mb,some mb∈C.mem y→∀ cs∈mb.es,∀ p∈cs,goodC false p) (hg:∀ y,goodV false (C.res y))
 (hk:∀ y,A=some y→(G y).bind K=some r→KA ρ (renV (sig ρ ν) (C.res y)) (putNew (sig ρ ν) ν ((C.mem y).drop ρ.length) (putIn (sig ρ ν) ρ (C.mem y) m))):pIO P wd ν f ps m KA:=by
 have H':(F ()).bind K=some r:=H
 rw [hF] at H'
 obtain ⟨y,hy,H2⟩:=Hcall H'
 subst hf
 exact ⟨ρ,C.m0,C.args,C.res y,C.mem y,C.ok hy,(hlen y).1,(hlen y).2,hps,hq,hn,hin,hm y,hg y,hk y hy H2⟩
def Zp8:Prop:=True
theorem rhoH {α β:Type} {ρ:List Nat} {F:Unit→Option α} {K:α→Option β} {r:β} (H:((rhoM ρ).bind F).bind K=some r):Zp8:=trivial
theorem rhoS {P:Program} {f:FuncId} {ps:List PV} {io:Bool} {wd ν:Nat} {m:Mem} {KA:PV→Mem→Prop} (h:Zp8) (hk:pCall P io wd ν f ps m KA):pCall P io wd ν f ps m KA:=hk
theorem Zrv {P:Program} {f:FuncId} {ps:List PV} {wd ν:Nat} {m:Mem} {KA:List Nat→PV→Mem→Prop} (h:Zp8) (hk:pIO P wd ν f ps m KA):pIO P wd ν f ps m KA:=hk
theorem Zfo {σ:Nat→Nat} {m:Mem} {n:Nat}:inRows σ m n [] []:=trivial
theorem ZoY {n:Nat} {p:PV} (h:isC p=true):lowC n p=true:=by
 cases p with
 | fn f cs=>
  simp only [isC,List.all_eq_true] at h
  simp only [lowC,List.all_eq_true]
  intro c hc
  have:=h c hc
  cases c <;> simp_all [isC1,low1]
 | _=>simp_all [isC,isC1,lowC,low1]
theorem Zfn {α:Type} {f:α→List PV} [hf:PlainC f] {σ:Nat→Nat} {m:Mem} {T:TK} {n l k:Nat} {xs:List α} {ρ:List Nat} {m0:Mem} (hl:look m l=some ⟨T,k,xs.map f⟩) (h:inRows σ m n ρ m0):inRows σ m n (l::ρ) (some ⟨T,k,xs.map f⟩::m0):=by
 refine ⟨?_,fun cs hcs p hp=>?_,h⟩
 ·rw [look_iff.1 hl]
  simp only [renMB,renEs_map]
 ·obtain ⟨x,_,rfl⟩:=List.mem_map.1 hcs
  exact ⟨goodC_of (hf.h x p hp),ZoY (hf.h x p hp)⟩
theorem Zfp {σ:Nat→Nat} {m:Mem} {T:TK} {n l k:Nat} {cs cs':List PV} {ρ:List Nat} {m0:Mem} (hl:look m l=some ⟨T,k,[cs']⟩) (hc:cs'=cs.map (renC σ)) (hg:∀ p∈cs,goodC false p∧lowC n p=true) (h:inRows σ m n ρ m0):inRows σ m n (l::ρ) (some ⟨T,k,[cs]⟩::m0):=by
 subst hc
 refine ⟨look_iff.1 hl,fun ds hds p hp=>?_,h⟩
 obtain rfl:ds=cs:=by simpa using hds
 exact hg p hp
@[irreducible] def jn {ο α:Type} (i j:Nat) (J:Option (ο ⊕ α)) (T:ο→List PV) (M:ο→Mem):Option (ο ⊕ α):=J
def hdC:Code→Bool
 | .region _ _ _=>true
 | .loop _=>true
 | .seq a _=>hdC a
 | .block _ c=>hdC c
 | _=>false
def idC:Code→Nat
 | .region i _ _=>i
 | .loop c=>idC c
 | .seq a _=>idC a
 | .block _ c=>idC c
 | _=>0
theorem ZiU {P:Program} {n0:Nat}:∀ (c:Code),hdC c=true→∀ {Q:Exit→List PV→Mem→Prop} {t T:List PV} {m M:Mem},Cuts n0 t m T M→pwp P n0 c Q T M→pwp P n0 c Q t m
 | .region i ops draw,_,Q,t,T,m,M,hc,h=>by
  rcases h with h | ⟨t1,m1,h1,h2⟩
  ·exact .inr ⟨T,M,hc,h⟩
  ·exact .inr ⟨t1,m1,hc.trans h1,h2⟩
 | .loop c,_,Q,t,T,m,M,hc,h=>by
  obtain ⟨I,n,t0,m0,h1,h2⟩:=h
  exact ⟨I,n,t0,m0,hc.trans h1,h2⟩
 | .seq a b,hd,Q,t,T,m,M,hc,h=>ZiU a hd hc h
 | .block i c,hd,Q,t,T,m,M,hc,h=>ZiU c hd hc h
theorem Zn3 {P:Program} {n0:Nat} {Q:Exit→List PV→Mem→Prop} {t:List PV} {m:Mem} {a b:Code} {ο α β γ:Type} {J:Option (ο ⊕ α)} {T:ο→List PV} {M:ο→Mem} {G:ο→Option β} {F:α→Option β} {K:β→Option γ} {r:γ}
 {i j:Nat} (H:((jn i j J T M).bind (selim G F)).bind K=some r) (hd:hdC b=true) (hi:(idC a == i && idC b == j)=true)
 (h1:∀ K':List PV→Mem→Prop,(∀ o t' m',(G o).bind K=some r→Cuts n0 t' m' (T o) (M o)→K' t' m')→J.bind (selim (fun o=>(G o).bind K) (fun v=>(F v).bind K))=some r→pwp P n0 a (thenP K' Q) t m)
 (h2:∀ o,(G o).bind K=some r→pwp P n0 b Q (T o) (M o)):pwp P n0 (.seq a b) Q t m:=by
 unfold jn at H
 refine h1 (fun t m=>pwp P n0 b Q t m) (fun o t' m' h hc=>ZiU b hd hc (h2 o h)) ?_
 cases J with
 | none=>cases H
 | some x=>cases x <;> exact H
theorem jnX {ο α β:Type} {n0:Nat} {s:ο} {F:ο→Option β} {K:α→Option β} {r:β} {Kp:List PV→Mem→Prop} {T:ο→List PV} {M:ο→Mem} {t:List PV} {m:Mem} (H:(some (Sum.inl s)).bind (selim F K)=some r) (hL:∀ o t' m',F o=some r→Cuts n0 t' m' (T o) (M o)→Kp t' m') (hc:Cuts n0 t m (T s) (M s)):Kp t m:=hL s t m H hc
def IsJn:Prop:=True
theorem jnH {ο α β γ:Type} {i j:Nat} {J:Option (ο ⊕ α)} {T:ο→List PV} {M:ο→Mem} {G:(ο ⊕ α)→Option β} {K:β→Option γ} {r:γ} (H:((jn i j J T M).bind G).bind K=some r):IsJn:=trivial
theorem jnS {P:Program} {n0:Nat} {Q:Exit→List PV→Mem→Prop} {t:List PV} {m:Mem} {a b:Code} (h:IsJn) (hk:pwp P n0 (.seq a b) Q t m):pwp P n0 (.seq a b) Q t m:=hk
theorem Zk1 {K K2:List PV→Mem→Prop} {Q:Exit→List PV→Mem→Prop}:thenP K (thenP K2 Q)=thenP K Q:=by
 funext e t m
 cases e <;> rfl
theorem Zn1 {P:Program} {n0:Nat} {Q:Exit→List PV→Mem→Prop} {t:List PV} {m:Mem} {a b c:Code} (h:pwp P n0 (.seq (.seq a b) c) Q t m):pwp P n0 (.seq a (.seq b c)) Q t m:=by
 have e:pwp P n0 (.seq (.seq a b) c) Q t m=pwp P n0 a (thenP (fun t m=>pwp P n0 b (thenP (fun t m=>pwp P n0 c Q t m) Q) t m) (thenP (fun t m=>pwp P n0 c Q t m) Q)) t m:=by simp only [pwp]
 rw [e,Zk1] at h
 simp only [pwp]
 exact h
theorem Zn4 {P:Program} {n0:Nat} {Q:Exit→List PV→Mem→Prop} {t:List PV} {m:Mem} {a b c:Code} {ο α β γ:Type} {J:Option (ο ⊕ α)} {T:ο→List PV} {M:ο→Mem} {G:ο→Option β} {F:α→Option β} {K:β→Option γ} {r:γ}
 {i j:Nat} (H:((jn i j J T M).bind (selim G F)).bind K=some r) (hd:hdC c=true) (hi:(idC a == i && idC c == j)=true)
 (h1:∀ K':List PV→Mem→Prop,(∀ o t' m',(G o).bind K=some r→Cuts n0 t' m' (T o) (M o)→K' t' m')→J.bind (selim (fun o=>(G o).bind K) (fun v=>(F v).bind K))=some r→pwp P n0 (.seq a b) (thenP K' Q) t m)
 (h2:∀ o,(G o).bind K=some r→pwp P n0 c Q (T o) (M o)):pwp P n0 (.seq a (.seq b c)) Q t m:=Zn1 (Zn3 H hd hi h1 h2)
inductive SubC:PV→PV→Prop
 | r (p:PV):SubC p p
 | nil (c:Nat):SubC (.v (.slice none 0 c)) (.sl [])
 | un (p:PV):SubC p .un
inductive SubL:List PV→List PV→Prop
 | n:SubL [] []
 | c {p q:PV} {ps qs:List PV} (h:SubC p q) (k:SubL ps qs):SubL (p::ps) (q::qs)
inductive SubV:PV→PV→Prop
 | c {p q:PV} (h:SubC p q):SubV p q
 | ag {cs ds:List PV} (h:SubL cs ds):SubV (.ag cs) (.ag ds)
inductive SubA:List PV→List PV→Prop
 | n:SubA [] []
 | c {p q:PV} {ps qs:List PV} (h:SubV p q) (k:SubA ps qs):SubA (p::ps) (q::qs)
theorem SubC.rep {w:World} {E:Env} {p q:PV} {x:Value} (h:SubC p q) (hr:Rep w E p x):Rep w E q x:=by
 cases h with
 | r=>exact hr
 | nil c=>
  cases hr with
  | c h=>cases h with
   | v _ _=>exact .c (.nil none c)
 | un=>exact .c (.un x)
theorem SubL.len {cs ds:List PV} (h:SubL cs ds):cs.length=ds.length:=by
 induction h with
 | n=>rfl
 | c _ _ ih=>simp [ih]
theorem SubL.get {cs ds:List PV} (h:SubL cs ds):∀ (j:Nat) (q:PV),ds[j]?=some q→∃ p,cs[j]?=some p∧SubC p q:=by
 induction h with
 | n=>intro j q hq; simp at hq
 | c h k ih=>
  intro j q hq
  cases j with
  | zero=>simp at hq; subst hq; exact ⟨_,by simp,h⟩
  | succ j=>simpa using ih j q (by simpa using hq)
theorem SubV.rep {w:World} {E:Env} {p q:PV} {x:Value} (h:SubV p q) (hr:Rep w E p x):Rep w E q x:=by
 cases h with
 | c h=>exact h.rep hr
 | ag h=>
  obtain ⟨vs,rfl,hl,h1,hc⟩:=Rep.ag_inv hr
  exact .ag _ vs (by rw [hl,h.len]) h1 fun j p y hp hy=>by
   obtain ⟨p',hp',hs⟩:=h.get j p hp
   exact hs.rep (hc j p' y hp' hy)
theorem SubA.len {cs ds:List PV} (h:SubA cs ds):cs.length=ds.length:=by
 induction h with
 | n=>rfl
 | c _ _ ih=>simp [ih]
theorem SubA.get {cs ds:List PV} (h:SubA cs ds):∀ (j:Nat) (q:PV),ds[j]?=some q→∃ p,cs[j]?=some p∧SubV p q:=by
 induction h with
 | n=>intro j q hq; simp at hq
 | c h k ih=>
  intro j q hq
  cases j with
  | zero=>simp at hq; subst hq; exact ⟨_,by simp,h⟩
  | succ j=>simpa using ih j q (by simpa using hq)
theorem CallM.weak {P:Program} {f:FuncId} {ps qs:List PV} {m0:Mem} {r:PV} {m1:Mem} (h:CallM P f qs m0 r m1) (hs:SubA ps qs):CallM P f ps m0 r m1:=by
 intro S β w vs ω hok hl ha
 refine h S β w vs ω hok (by rw [hl,hs.len]) fun i q hq=>?_
 obtain ⟨p,hp,hv⟩:=hs.get i q hq
 obtain ⟨x,hx,hr⟩:=ha i p hp
 exact ⟨x,hx,hv.rep hr⟩
def isCM:PV→Bool
 | .ms _=>true
 | p=>isC p
def Zrm:PV→Bool
 | .ag cs=>cs.all isCM
 | .tu _=>false
 | p=>isCM p
theorem Zly {p:PV} (h:isCM p=true):goodC false p:=by
 cases p with
 | ms l=>simp [goodC]
 | _=>exact goodC_of h
theorem Zlv {cs:List PV} (h:cs.all isCM=true):goodV false (.ag cs):=fun c hc=>Zly (List.all_eq_true.1 h c hc)
theorem Zlw {ps:List PV} (h:ps.all Zrm=true):goodV false (.tu ps):=by
 intro c hc
 have:=List.all_eq_true.1 h c hc
 cases c with
 | ag cs=>exact fun d hd=>Zly (List.all_eq_true.1 this d hd)
 | tu vs=>simp [Zrm] at this
 | fn f cs=>exact goodC_of (c:=.fn f cs) this
 | _=>simp [goodA,goodC]
theorem Zhn {m m':Mem} {ρ:Nat→Option Nat} {c:Nat}:CutC ρ m m' (.v (.slice none 0 c)) (.sl []):=.nilsl c
theorem ZhS {m m':Mem} {rs rr:List (Option Nat)} {T:TK} {k:Nat} {mm:Mem} (hk:decide (0<k)=true) (h:rowsOk rs m m' rr mm):rowsOk rs m m' (none::rr) (some ⟨T,k,[]⟩::mm):=⟨⟨rfl,of_decide_eq_true hk⟩,h⟩
theorem ZpU {i:Nat} {rs:List (Option Nat)} {m:Mem}:lowB 0 i rs m=true:=rfl
theorem ZpV {n i:Nat} {rs:List (Option Nat)} {mb:MB} {m:Mem} (h:lowB n (i+1) rs m=true):lowB (n+1) i (some i::rs) (some mb::m)=true:=by simp [lowB,h]
theorem ZpW {n i:Nat} {rs:List (Option Nat)} {m:Mem} (h:lowB n (i+1) rs m=true):lowB (n+1) i (none::rs) (none::m)=true:=by simpa [lowB] using h
theorem ZpD {n0:Nat} {t t':List PV} {m:Mem} (hl:lowB n0 0 [] []=true) (hT:cutT (rho []) m [] t t') (hM:rowsOk [] m [] [] []) (hi:injB []=true):Cuts n0 t m t' []:=cut_mk hT hM hi hl
theorem ZpE {n0:Nat} {t t':List PV} {m:Mem} {a:Option MB} (r0:Option Nat) (hl:lowB n0 0 [r0] [a]=true) (hT:cutT (rho [r0]) m [a] t t') (hM:rowsOk [r0] m [a] [r0] [a]) (hi:injB [r0]=true):Cuts n0 t m t' [a]:=cut_mk hT hM hi hl
theorem ZpF {n0:Nat} {t t':List PV} {m:Mem} {a b:Option MB} (r0 r1:Option Nat) (hl:lowB n0 0 [r0,r1] [a,b]=true) (hT:cutT (rho [r0,r1]) m [a,b] t t') (hM:rowsOk [r0,r1] m [a,b] [r0,r1] [a,b]) (hi:injB [r0,r1]=true):Cuts n0 t m t' [a,b]:=cut_mk hT hM hi hl
theorem ZpG {n0:Nat} {t t':List PV} {m:Mem} {a b c:Option MB} (r0 r1 r2:Option Nat) (hl:lowB n0 0 [r0,r1,r2] [a,b,c]=true) (hT:cutT (rho [r0,r1,r2]) m [a,b,c] t t') (hM:rowsOk [r0,r1,r2] m [a,b,c] [r0,r1,r2] [a,b,c]) (hi:injB [r0,r1,r2]=true):Cuts n0 t m t' [a,b,c]:=cut_mk hT hM hi hl
theorem ZpH {n0:Nat} {t t':List PV} {m:Mem} {a b c d:Option MB} (r0 r1 r2 r3:Option Nat) (hl:lowB n0 0 [r0,r1,r2,r3] [a,b,c,d]=true) (hT:cutT (rho [r0,r1,r2,r3]) m [a,b,c,d] t t') (hM:rowsOk [r0,r1,r2,r3] m [a,b,c,d] [r0,r1,r2,r3] [a,b,c,d]) (hi:injB [r0,r1,r2,r3]=true):Cuts n0 t m t' [a,b,c,d]:=cut_mk hT hM hi hl
theorem ZpI {n0:Nat} {t t':List PV} {m:Mem} {a b c d e:Option MB} (r0 r1 r2 r3 r4:Option Nat) (hl:lowB n0 0 [r0,r1,r2,r3,r4] [a,b,c,d,e]=true) (hT:cutT (rho [r0,r1,r2,r3,r4]) m [a,b,c,d,e] t t') (hM:rowsOk [r0,r1,r2,r3,r4] m [a,b,c,d,e] [r0,r1,r2,r3,r4] [a,b,c,d,e]) (hi:injB [r0,r1,r2,r3,r4]=true):Cuts n0 t m t' [a,b,c,d,e]:=cut_mk hT hM hi hl
theorem ZpJ {n0:Nat} {t t':List PV} {m:Mem} {a b c d e f:Option MB} (r0 r1 r2 r3 r4 r5:Option Nat) (hl:lowB n0 0 [r0,r1,r2,r3,r4,r5] [a,b,c,d,e,f]=true) (hT:cutT (rho [r0,r1,r2,r3,r4,r5]) m [a,b,c,d,e,f] t t') (hM:rowsOk [r0,r1,r2,r3,r4,r5] m [a,b,c,d,e,f] [r0,r1,r2,r3,r4,r5] [a,b,c,d,e,f]) (hi:injB [r0,r1,r2,r3,r4,r5]=true):Cuts n0 t m t' [a,b,c,d,e,f]:=cut_mk hT hM hi hl
theorem ZpK {n0:Nat} {t t':List PV} {m:Mem} {a b c d e f g:Option MB} (r0 r1 r2 r3 r4 r5 r6:Option Nat) (hl:lowB n0 0 [r0,r1,r2,r3,r4,r5,r6] [a,b,c,d,e,f,g]=true) (hT:cutT (rho [r0,r1,r2,r3,r4,r5,r6]) m [a,b,c,d,e,f,g] t t') (hM:rowsOk [r0,r1,r2,r3,r4,r5,r6] m [a,b,c,d,e,f,g] [r0,r1,r2,r3,r4,r5,r6] [a,b,c,d,e,f,g]) (hi:injB [r0,r1,r2,r3,r4,r5,r6]=true):Cuts n0 t m t' [a,b,c,d,e,f,g]:=cut_mk hT hM hi hl
theorem ZpL {n0:Nat} {t t':List PV} {m:Mem} {a b c d e f g h:Option MB} (r0 r1 r2 r3 r4 r5 r6 r7:Option Nat) (hl:lowB n0 0 [r0,r1,r2,r3,r4,r5,r6,r7] [a,b,c,d,e,f,g,h]=true) (hT:cutT (rho [r0,r1,r2,r3,r4,r5,r6,r7]) m [a,b,c,d,e,f,g,h] t t') (hM:rowsOk [r0,r1,r2,r3,r4,r5,r6,r7] m [a,b,c,d,e,f,g,h] [r0,r1,r2,r3,r4,r5,r6,r7] [a,b,c,d,e,f,g,h]) (hi:injB [r0,r1,r2,r3,r4,r5,r6,r7]=true):Cuts n0 t m t' [a,b,c,d,e,f,g,h]:=cut_mk hT hM hi hl
theorem ZpM {n0:Nat} {t t':List PV} {m:Mem} {a b c d e f g h i:Option MB} (r0 r1 r2 r3 r4 r5 r6 r7 r8:Option Nat) (hl:lowB n0 0 [r0,r1,r2,r3,r4,r5,r6,r7,r8] [a,b,c,d,e,f,g,h,i]=true) (hT:cutT (rho [r0,r1,r2,r3,r4,r5,r6,r7,r8]) m [a,b,c,d,e,f,g,h,i] t t') (hM:rowsOk [r0,r1,r2,r3,r4,r5,r6,r7,r8] m [a,b,c,d,e,f,g,h,i] [r0,r1,r2,r3,r4,r5,r6,r7,r8] [a,b,c,d,e,f,g,h,i]) (hi:injB [r0,r1,r2,r3,r4,r5,r6,r7,r8]=true):Cuts n0 t m t' [a,b,c,d,e,f,g,h,i]:=cut_mk hT hM hi hl
theorem Zm9 {n0:Nat} {t t':List PV} {m:Mem} {a b c d e f g h i j:Option MB} (r0 r1 r2 r3 r4 r5 r6 r7 r8 r9:Option Nat) (hl:lowB n0 0 [r0,r1,r2,r3,r4,r5,r6,r7,r8,r9] [a,b,c,d,e,f,g,h,i,j]=true) (hT:cutT (rho [r0,r1,r2,r3,r4,r5,r6,r7,r8,r9]) m [a,b,c,d,e,f,g,h,i,j] t t') (hM:rowsOk [r0,r1,r2,r3,r4,r5,r6,r7,r8,r9] m [a,b,c,d,e,f,g,h,i,j] [r0,r1,r2,r3,r4,r5,r6,r7,r8,r9] [a,b,c,d,e,f,g,h,i,j]) (hi:injB [r0,r1,r2,r3,r4,r5,r6,r7,r8,r9]=true):Cuts n0 t m t' [a,b,c,d,e,f,g,h,i,j]:=cut_mk hT hM hi hl
theorem Zna {n0:Nat} {t t':List PV} {m:Mem} {a b c d e f g h i j k:Option MB} (r0 r1 r2 r3 r4 r5 r6 r7 r8 r9 r10:Option Nat) (hl:lowB n0 0 [r0,r1,r2,r3,r4,r5,r6,r7,r8,r9,r10] [a,b,c,d,e,f,g,h,i,j,k]=true) (hT:cutT (rho [r0,r1,r2,r3,r4,r5,r6,r7,r8,r9,r10]) m [a,b,c,d,e,f,g,h,i,j,k] t t') (hM:rowsOk [r0,r1,r2,r3,r4,r5,r6,r7,r8,r9,r10] m [a,b,c,d,e,f,g,h,i,j,k] [r0,r1,r2,r3,r4,r5,r6,r7,r8,r9,r10] [a,b,c,d,e,f,g,h,i,j,k]) (hi:injB [r0,r1,r2,r3,r4,r5,r6,r7,r8,r9,r10]=true):Cuts n0 t m t' [a,b,c,d,e,f,g,h,i,j,k]:=cut_mk hT hM hi hl
theorem Znb {n0:Nat} {t t':List PV} {m:Mem} {a b c d e f g h i j k l:Option MB} (r0 r1 r2 r3 r4 r5 r6 r7 r8 r9 r10 r11:Option Nat) (hl:lowB n0 0 [r0,r1,r2,r3,r4,r5,r6,r7,r8,r9,r10,r11] [a,b,c,d,e,f,g,h,i,j,k,l]=true) (hT:cutT (rho [r0,r1,r2,r3,r4,r5,r6,r7,r8,r9,r10,r11]) m [a,b,c,d,e,f,g,h,i,j,k,l] t t') (hM:rowsOk [r0,r1,r2,r3,r4,r5,r6,r7,r8,r9,r10,r11] m [a,b,c,d,e,f,g,h,i,j,k,l] [r0,r1,r2,r3,r4,r5,r6,r7,r8,r9,r10,r11] [a,b,c,d,e,f,g,h,i,j,k,l]) (hi:injB [r0,r1,r2,r3,r4,r5,r6,r7,r8,r9,r10,r11]=true):Cuts n0 t m t' [a,b,c,d,e,f,g,h,i,j,k,l]:=cut_mk hT hM hi hl
theorem Zbz {b:Bool} {T:TK} {k:Nat} {es:List (List PV)} (h:∀ cs∈es,∀ p∈cs,goodC b p):∀ mb,some mb∈([some ⟨T,k,es⟩]:Mem)→∀ cs∈mb.es,∀ p∈cs,goodC b p:=by
 intro mb hm
 simp only [List.mem_singleton,Option.some.injEq] at hm
 subst hm
 exact h
theorem Zhz {m:Mem} {b:Bool} (h2:∀ mb,some mb∈m→∀ cs∈mb.es,∀ p∈cs,goodC b p):∀ mb,some mb∈((none:Option MB)::m)→∀ cs∈mb.es,∀ p∈cs,goodC b p:=by
 intro mb h
 rcases List.mem_cons.1 h with h | h
 ·cases h
 ·exact h2 mb h
theorem hm_e {T:TK} {k:Nat} {b:Bool}:∀ mb,some mb∈([some ⟨T,k,[]⟩]:Mem)→∀ cs∈mb.es,∀ p∈cs,goodC b p:=Zbz (by simp)
theorem Zq1 {α β:Type} {K:α→Option β} {r:β} (h:(none:Option α).bind K=some r):False:=by cases h
theorem Znh {n:Nat} {a a2:ByteArray} {b b2:ByteArray} {c c2:Int} {d d2:Int} {e e2:Int} {f f2:Int}:eqT Tryz.prog (n+3) 67 [vs a,vs b,vi c,vi d,vi e,vi f] [vs a2,vs b2,vi c2,vi d2,vi e2,vi f2]=some (decide ((⟨a,b,c,d,e,f⟩:YLeg)=(⟨a2,b2,c2,d2,e2,f2⟩:YLeg))):=by
 simp only [eqT,Tryz.underlying3,Tryz.underlying67,ts67,Tryz.underlying9,Program.fieldsOf,go_sem]
 simp [tc67,tc3,tc9,baB]
 rfl
@[go_sem] theorem Zr8 {a a2:ByteArray} {b b2:ByteArray} {c c2:Int} {d d2:Int} {e e2:Int} {f f2:Int} {KR:PV→Prop}:eqK Tryz.prog .eql 67 [vs a,vs b,vi c,vi d,vi e,vi f] [vs a2,vs b2,vi c2,vi d2,vi e2,vi f2] KR=KR (vb (decide ((⟨a,b,c,d,e,f⟩:YLeg)=(⟨a2,b2,c2,d2,e2,f2⟩:YLeg)))):=by unfold eqK; rw [show (10000:Nat)=9997+3 from rfl,Znh,Tryz.underlying67]; simp only [te67,true_and]
@[go_sem] theorem Zr9 {a a2:ByteArray} {b b2:ByteArray} {c c2:Int} {d d2:Int} {e e2:Int} {f f2:Int} {KR:PV→Prop}:eqK Tryz.prog .neq 67 [vs a,vs b,vi c,vi d,vi e,vi f] [vs a2,vs b2,vi c2,vi d2,vi e2,vi f2] KR=KR (vb (!decide ((⟨a,b,c,d,e,f⟩:YLeg)=(⟨a2,b2,c2,d2,e2,f2⟩:YLeg)))):=by unfold eqK; rw [show (10000:Nat)=9997+3 from rfl,Znh,Tryz.underlying67]; simp only [te67,true_and]
theorem Zlr {n:Nat} {a a2:Int} {b b2:Int} {c c2:Int} {d d2:ByteArray} {e e2:Int} {f f2:Int}:eqT Tryz.prog (n+3) 130 [vi a,vi b,vi c,vs d,vi e,vi f] [vi a2,vi b2,vi c2,vs d2,vi e2,vi f2]=some (decide ((⟨a,b,c,d,⟨e,f⟩⟩:YScan)=(⟨a2,b2,c2,d2,⟨e2,f2⟩⟩:YScan))):=by
 simp only [eqT,Tryz.underlying3,Tryz.underlying130,Zsk,Tryz.underlying55,ts55,Tryz.underlying9,Program.fieldsOf,go_sem]
 simp [Zsi,tc55,tc3,tc9,baB]
 rfl
@[go_sem] theorem ZrQ {a a2:Int} {b b2:Int} {c c2:Int} {d d2:ByteArray} {e e2:Int} {f f2:Int} {KR:PV→Prop}:eqK Tryz.prog .eql 130 [vi a,vi b,vi c,vs d,vi e,vi f] [vi a2,vi b2,vi c2,vs d2,vi e2,vi f2] KR=KR (vb (decide ((⟨a,b,c,d,⟨e,f⟩⟩:YScan)=(⟨a2,b2,c2,d2,⟨e2,f2⟩⟩:YScan)))):=by unfold eqK; rw [show (10000:Nat)=9997+3 from rfl,Zlr,Tryz.underlying130]; simp only [ZrF,true_and]
@[go_sem] theorem ZrS {a a2:Int} {b b2:Int} {c c2:Int} {d d2:ByteArray} {e e2:Int} {f f2:Int} {KR:PV→Prop}:eqK Tryz.prog .neq 130 [vi a,vi b,vi c,vs d,vi e,vi f] [vi a2,vi b2,vi c2,vs d2,vi e2,vi f2] KR=KR (vb (!decide ((⟨a,b,c,d,⟨e,f⟩⟩:YScan)=(⟨a2,b2,c2,d2,⟨e2,f2⟩⟩:YScan)))):=by unfold eqK; rw [show (10000:Nat)=9997+3 from rfl,Zlr,Tryz.underlying130]; simp only [ZrF,true_and]
structure ElT (P:Program) (t e:TypeId) (k bytes:Nat):Prop where
 ht:P.underlying t=some (.slice e)
 info:∃ i z,P.info? e=some i∧i.zero=some z∧i.size=k∧i.bytes=bytes∧z.cells.size=k
theorem ElT.mk' {P:Program} {t e:TypeId} {k bytes:Nat} {z:Value} (ht:P.underlying t=some (.slice e)) (h:(P.info? e).map (fun i=>(i.zero,i.size,i.bytes))=some (some z,k,bytes)) (hz:z.cells.size=k):ElT P t e k bytes:=by
 obtain ⟨i,h1,h2,h3,h4⟩:=info_parts h
 exact ⟨ht,i,z,h1,h2,h3,h4,hz⟩
theorem Own.form {α:Type} [Enc α] {w:World} {B E:Nat} {v:Value} {xs:List α} (h:Own w B E v xs):∃ A c,v=.slice A xs.length c∧xs.length≤c∧c≤maxLen:=by
 rcases h.2 with ⟨hv,h0⟩ | ⟨g,cap,cur,hv,_,_,hnc,hcm,_⟩
 ·exact ⟨none,0,by rw [hv,h0],by omega,by unfold maxLen; omega⟩
 ·exact ⟨_,cap,hv,hnc,hcm⟩
theorem Own.nil_ {α:Type} [Enc α] (w:World) (B E:Nat):Own w B E (.slice none 0 0) ([]:List α):=World.ownsRow_nil _ _ _ _
theorem Own.empty {α:Type} [Enc α] (w:World) (B E c:Nat) (cur:Array Value) (hB:B≤w.heap.size) (hm:c≤maxLen) (hs:cur.size=c*Enc.k α):
 Own (w.alloc (.cells cur E)) B E (.slice (some ⟨w.heap.size,0,none⟩) 0 c) ([]:List α):=World.ownsRow_made w cur c hB hm hs
theorem Own.more {α:Type} [Enc α] {w:World} {B B' E:Nat} {v:Value} {xs:List α} (h:Own w B E v xs) (hB:B'≤B):Own w B' E v xs:=by
 refine ⟨h.1,?_⟩
 rcases h.2 with h2 | ⟨g,cap,cur,hv,hb,r⟩
 ·exact .inl h2
 ·exact .inr ⟨g,cap,cur,hv,by omega,r⟩
theorem Own.down {α:Type} [Enc α] {w0 W w:World} {E:Nat} {v:Value} {xs:List α} (h:Own w W.heap.size E v xs) (hu:Up w0 W):Own w w0.heap.size E v xs:=h.more hu.size
theorem Up.le {w0 w:World} (h:Up w0 w):w0.heap.size≤w.heap.size:=h.size
theorem Own.grown {α:Type} [Enc α] {w w':World} {B E:Nat} {v:Value} {xs:List α} {row:Option Nat} (h:Own w B E v xs) (hg:w.grownBy w' row) (hne:v.ownBlock=none∨v.ownBlock≠row):Own w' B E v xs:=
 World.ownsRow.kept h hg hne
theorem Rd.one {α:Type} [Enc α] (w:World) (T:TypeId) (x:α) (B:Nat) (hB:w.heap.size<B):Rd (w.alloc (.cells (Enc.cells x).toArray T)) B (some ⟨w.heap.size,0,none⟩) [x]:=by
 intro _
 refine ⟨w.heap.size,0,rfl,hB,fun j u hu=>?_⟩
 rw [ZoL] at hu
 rw [Nat.zero_add,cell_of_row _ _ j _ T (0,0) (heap_alloc_new w _)]
 simpa using hu
def ZdE (w0 w:World) (B E k:Nat) (g n cap m:Nat) (ys:List Value):Prop:=
 ∃ cs:List Value,w.ownsRow B E k (.slice (some ⟨g,0,none⟩) n cap) n cs∧cs.take m=ys.take m∧w0.grownBy w (some g)
theorem ZdE.start {w:World} {B E k g n cap:Nat} {cs ys:List Value} (h:w.ownsRow B E k (.slice (some ⟨g,0,none⟩) n cap) n cs):ZdE w w B E k g n cap 0 ys:=
 ⟨cs,h,by simp,⟨rfl,rfl,rfl,Nat.le_refl _,fun _ _ _=>rfl⟩⟩
theorem ZdE.cell {w0 w:World} {B E k g n cap m:Nat} {ys:List Value} (h:ZdE w0 w B E k g n cap m ys) {j:Nat} (hj:j<n*k):∃ u,w.cell? ⟨g,j,none⟩=some u:=by
 obtain ⟨cs,ho,_⟩:=h
 have hl:cs.length=n*k:=ho.1
 exact ⟨cs[j]'(by omega),by rw [ho.cellAt j hj]; exact List.getElem?_eq_getElem _⟩
theorem ZdE.frozen {w0 w:World} {B E k g n cap m:Nat} {ys:List Value} (h:ZdE w0 w B E k g n cap m ys) (j:Nat):w.frozen? ⟨g,j,none⟩=false:=by
 obtain ⟨cs,ho,_⟩:=h
 exact ho.frozenAt j
theorem ZiH {a b c:World} {row:Option Nat} (h:a.grownBy b row) (k:b.grownBy c row):a.grownBy c row:=
 ⟨k.os.trans h.os,k.tape.trans h.tape,k.output.trans h.output,Nat.le_trans h.size k.size,fun i hi hne=>(k.block i (Nat.lt_of_lt_of_le hi h.size) hne).trans (h.block i hi hne)⟩
theorem ZdE.set1 {w0 w:World} {B E k g n cap m:Nat} {ys:List Value} {v:Value} (h:ZdE w0 w B E k g n cap m ys) (hm:m<n*k) (hy:ys[m]?=some v):
 ZdE w0 (w.setCell ⟨g,m,none⟩ v) B E k g n cap (m+1) ys:=by
 obtain ⟨cs,ho,ht,hg⟩:=h
 have hl:cs.length=n*k:=ho.1
 obtain ⟨h1,h2⟩:=ho.stored m v
 exact ⟨cs.set m v,h1,Zgo (by omega) hy ht,ZiH hg h2⟩
theorem ZdE.drewN {w0 w:World} {B E k g n cap m:Nat} {ys:List Value} (h:ZdE w0 w B E k g n cap m ys) (q:Nat):ZdE w0 (w.drewN q) B E k g n cap m ys:=by
 obtain ⟨cs,ho,ht,hg⟩:=h
 exact ⟨cs,ho,ht,⟨hg.os,hg.tape,hg.output,hg.size,hg.block⟩⟩
theorem ZdE.own {α:Type} [Enc α] {w0 w:World} {B E g n cap:Nat} {ys:List α} (h:ZdE w0 w B E (Enc.k α) g n cap (n*Enc.k α) (flat ys)) (hn:ys.length=n):Own w B E (.slice (some ⟨g,0,none⟩) n cap) ys∧w0.grownBy w (some g):=by
 obtain ⟨cs,ho,ht,hg⟩:=h
 have hl:cs.length=n*Enc.k α:=ho.1
 have e1:(flat ys).take (n*Enc.k α)=flat ys:=List.take_of_length_le (by rw [Zds,hn]; exact Nat.le_refl _)
 rw [e1,List.take_of_length_le (by omega)] at ht
 subst ht
 refine ⟨?_,hg⟩
 unfold Own
 rw [hn]
 exact ho
theorem ZoA (b o j:Nat):(⟨b,o,none⟩:Addr).add j=⟨b,o+j,none⟩:=by unfold Addr.add; split <;> simp_all
theorem Zgj {α:Type} [Enc α] {P:Program} (w:World) {t ty e:Nat} {i:TypeInfo} (ht:P.underlying t=some (.slice e)) (hi:P.info? e=some i) {base:Nat} {v:Value} {ys:List α} (hown:Own w base e v ys) (c:Nat):
 (Builtin.append_ #[t,t] ty #[v,.slice none 0 c]).run P w=.ok v w:=by
 rcases hown.2 with ⟨rfl,h0⟩ | ⟨g,cap,cur,rfl,_,_,hnc,_⟩
 ·simp [Builtin.append_,run_underlying ht,sizeOf,typeInfo,hi,Builtin.lenOf,Builtin.firstCells]
 ·simp [Builtin.append_,run_underlying ht,sizeOf,typeInfo,hi,Builtin.lenOf,Builtin.firstCells,hnc,storeCells]
theorem ZiW {α:Type} [Enc α] {P:Program} (w:World) {t ty e bytes:Nat} (T:ElT P t e (Enc.k α) bytes) {base:Nat} {v:Value} {ys:List α} (hown:Own w base e v ys)
 {B:Nat} {A:Option Addr} {c:Nat} {xs:List α} (hr:Rd w B A xs) (hbytes:(ys.length+xs.length)*bytes≤140737488355328) (h63:ys.length+xs.length≤maxLen) (hbase:base≤w.heap.size):
 ∃ v' w',(Builtin.append_ #[t,t] ty #[v,.slice A xs.length c]).run P w=.ok v' w'∧Own w' base e v' (ys++xs)∧w.grownBy w' v.ownBlock∧(v'.ownBlock=v.ownBlock∨v'.ownBlock=some w.heap.size):=by
 obtain ⟨i,z,hi,hz,hs,hb,hzs⟩:=T.info
 cases A with
 | none=>
  have hx:xs=[]:=by
   rcases Classical.em (xs=[]) with h | h
   ·exact h
   ·obtain ⟨_,_,h',_⟩:=hr h
    cases h'
  subst hx
  have hrun:=Zgj (P:=P) w (ty:=ty) T.ht hi hown c
  exact ⟨v,w,by simpa using hrun,by simpa using hown,⟨rfl,rfl,rfl,Nat.le_refl _,fun _ _ _=>rfl⟩,.inl rfl⟩
 | some ad=>
  have hnews:∀ j u,(flat xs)[j]?=some u→w.cell? (ad.add j)=some u:=by
   intro j u hu
   have hne:xs≠[]:=by rintro rfl; simp [flat] at hu
   obtain ⟨b,off,hA',_,hc⟩:=hr hne
   injection hA' with hA'
   subst hA'
   rw [ZoA]
   exact hc j u hu
  obtain ⟨v',w',hrun,h2,h3,_,h5⟩:=run_append_own_at (P:=P) w base t ty e i z (Enc.k α) bytes T.ht hi hz hs hb hzs Enc.pos v ys.length (flat ys) hown ad xs.length c (flat xs) (Zds xs) hnews (Zjq xs) h63 hbytes hbase
  refine ⟨v',w',hrun,?_,h3,h5⟩
  have e1:(ys++xs).length=ys.length+xs.length:=List.length_append
  unfold Own
  rw [e1,Zku]
  exact h2
theorem Up.grown' {α:Type} [Enc α] {w0 w w':World} {base e:Nat} {v:Value} {ys:List α} (h:Up w0 w) (hg:w.grownBy w' v.ownBlock) (hown:Own w base e v ys) (hb:w0.heap.size≤base):Up w0 w':=
 Below.grown h hg h.size (fun k hk=>Nat.le_trans hb (World.ownsRow.lt hown k hk).1)
theorem Zki {α:Type} [Enc α] {P:Program} {w:World} {o:Oper} {a:Act} {K:Act→World→Prop} {Q:Exit→Act→World→Prop} {t e bytes:Nat} (T:ElT P t e (Enc.k α) bytes)
 (s x:Operand) (ho:o.op=.call { callee:=.builtin .append,args:=#[s,x],argTypes:=#[t,t] })
 {base:Nat} {v:Value} {ys:List α} (hs:a.eval s=v) (hown:Own w base e v ys)
 {B:Nat} {A:Option Addr} {c:Nat} {xs:List α} (n:Nat) (hx:a.eval x=.slice A n c) (hn:n=xs.length) (hr:Rd w B A xs)
 (hbytes:(ys.length+xs.length)*bytes≤140737488355328) (h63:ys.length+xs.length≤maxLen) (hbase:base≤w.heap.size)
 (h:∀ v' w',Own w' base e v' (ys++xs)→w.grownBy w' v.ownBlock→(v'.ownBlock=v.ownBlock∨v'.ownBlock=some w.heap.size)→(∀ w0,w0.heap.size≤base→Up w0 w→Up w0 w')→K (a.put o.dst v') w'):
 o.wp P a w K Q:=by
 subst hn
 obtain ⟨v',w',hrun,h2,h3,h4⟩:=ZiW (P:=P) w (ty:=o.type) (c:=c) T hown hr hbytes h63 hbase
 unfold Oper.wp execOp
 simp only [ho,resolve,invoke,builtin,Sem.run_bind,Sem.run_pure,Result.andThen_ok,List.map_toArray,List.map_cons,List.map_nil,hs,hx,hrun]
 exact h v' w' h2 h3 h4 fun w0 hb hu=>Up.grown' hu h3 hown hb
theorem ZB {α:Type} [Enc α] {P:Program} {w:World} {ops:Array Oper} {rest:List Oper} {o:Oper} {a:Act} {Q:Exit→Act→World→Prop} {t e bytes:Nat} (T:ElT P t e (Enc.k α) bytes)
 (hgd:o.guard=none) (s x:Operand) (ho:o.op=.call { callee:=.builtin .append,args:=#[s,x],argTypes:=#[t,t] })
 {base:Nat} {v:Value} {ys:List α} (hs:a.eval s=v) (hown:Own w base e v ys)
 {B:Nat} {A:Option Addr} {c:Nat} {xs:List α} (n:Nat) (hx:a.eval x=.slice A n c) (hn:n=xs.length) (hr:Rd w B A xs)
 (hbytes:(ys.length+xs.length)*bytes≤140737488355328) (h63:ys.length+xs.length≤maxLen) (hbase:base≤w.heap.size)
 (h:∀ v' w',Own w' base e v' (ys++xs)→w.grownBy w' v.ownBlock→(v'.ownBlock=v.ownBlock∨v'.ownBlock=some w.heap.size)→(∀ w0,w0.heap.size≤base→Up w0 w→Up w0 w')→wpList P ops Q rest (a.put o.dst v') w'):
 wpList P ops Q (o::rest) a w:=
 wpList_plain hgd fun _ hK=>Zki T s x ho hs hown n hx hn hr hbytes h63 hbase fun v' w' h2 h3 h4 h5=>hK _ _ (h v' w' h2 h3 h4 h5)
structure Mk (TO:TypeId→Nat→Prop) (D:Nat→Prop) (w w':World):Prop where
 os:w'.os=w.os
 tape:w'.tape=w.tape
 output:w'.output=w.output
 size:w.heap.size≤w'.heap.size
 low:∀ b,b<w.heap.size→¬ D b→w'.heap[b]?=w.heap[b]?
 row:∀ (b:Nat) (cs:Array Value) (T:TypeId),w.heap[b]?=some (.cells cs T (0,0))→∃ cs':Array Value,w'.heap[b]?=some (.cells cs' T (0,0))∧cs'.size=cs.size∧∀ j,TO T j→cs'[j]?=cs[j]?
section
variable {TO:TypeId→Nat→Prop} {D:Nat→Prop} {B:Nat} {w a b:World}
theorem Mk.rfl':Mk TO D w w:=⟨rfl,rfl,rfl,Nat.le_refl _,fun _ _ _=>rfl,fun b cs T h=>⟨cs,h,rfl,fun _ _=>rfl⟩⟩
theorem Mk.trans (h:Mk TO D w a) (k:Mk TO D a b):Mk TO D w b:=
 ⟨k.os.trans h.os,k.tape.trans h.tape,k.output.trans h.output,Nat.le_trans h.size k.size,fun x hx hd=>(k.low x (Nat.lt_of_lt_of_le hx h.size) hd).trans (h.low x hx hd),fun x cs T hx=>by
  obtain ⟨c1,h1,h2,h3⟩:=h.row x cs T hx
  obtain ⟨c2,k1,k2,k3⟩:=k.row x c1 T h1
  exact ⟨c2,k1,k2.trans h2,fun j hj=>(k3 j hj).trans (h3 j hj)⟩⟩
theorem Mk.up (h:Mk TO D w a) (k:Up a b):Mk TO D w b:=
 ⟨k.os.trans h.os,k.tape.trans h.tape,k.output.trans h.output,Nat.le_trans h.size k.size,fun x hx hd=>(k.block x (Nat.lt_of_lt_of_le hx h.size)).trans (h.low x hx hd),fun x cs T hx=>by
  obtain ⟨c1,h1,h2,h3⟩:=h.row x cs T hx
  exact ⟨c1,(k.block x (Array.getElem?_eq_some_iff.1 h1).1).trans h1,h2,h3⟩⟩
theorem Mk.set (h:Mk TO D w a) {g j:Nat} {cs:Array Value} {T:TypeId} (hg:a.heap[g]?=some (.cells cs T (0,0))) (hBg:D g) (hT:¬ TO T j) (v:Value):Mk TO D w (a.setCell ⟨g,j,none⟩ v):=by
 have hs:(a.setCell ⟨g,j,none⟩ v).heap[g]?=some (.cells (cs.setIfInBounds j v) T (0,0)):=heap_setCell_same a g j cs T v hg
 have ho:∀ x,x≠g→(a.setCell ⟨g,j,none⟩ v).heap[x]?=a.heap[x]?:=fun x hx=>heap_setCell_other a ⟨g,j,none⟩ x v hx
 have hz:(a.setCell ⟨g,j,none⟩ v).heap.size=a.heap.size:=by simp
 refine ⟨h.os,h.tape,h.output,by rw [hz]; exact h.size,fun x hx hd=>(ho x (by rintro rfl; exact hd hBg)).trans (h.low x hx hd),fun x c T' hx=>?_⟩
 obtain ⟨c1,h1,h2,h3⟩:=h.row x c T' hx
 by_cases e:x=g
 ·subst e
  rw [hg] at h1
  obtain ⟨rfl,rfl⟩:cs=c1∧T=T':=by simpa using h1
  refine ⟨_,hs,by simpa using h2,fun q hq=>?_⟩
  rw [Array.getElem?_setIfInBounds_ne (by intro e; subst e; exact hT hq)]
  exact h3 q hq
 ·exact ⟨c1,(ho x e).trans h1,h2,h3⟩
def Zak (w:World) (B:Nat) (T:TypeId) (k:Nat) (v:Value) (n:Nat):Prop:=
 (∃ c,v=.slice none 0 c∧n=0)∨∃ (g c:Nat) (cs:Array Value),v=.slice (some ⟨g,0,none⟩) n c∧B≤g∧w.heap[g]?=some (.cells cs T (0,0))∧n*k≤cs.size
theorem Zak.mk {T:TypeId} {k:Nat} {v:Value} {n B':Nat} (h:Zak w B' T k v n) (m:Mk TO D w a):Zak a B' T k v n:=by
 rcases h with h | ⟨g,c,cs,h1,h2,h3,h4⟩
 ·exact .inl h
 ·obtain ⟨c1,k1,k2,_⟩:=m.row g cs T h3
  exact .inr ⟨g,c,c1,h1,h2,k1,by omega⟩
theorem Zak.more {T:TypeId} {k:Nat} {v:Value} {n B':Nat} (h:Zak w B' T k v n) (hB:B≤B'):Zak w B T k v n:=by
 rcases h with h | ⟨g,c,cs,h1,h2,h3,h4⟩
 ·exact .inl h
 ·exact .inr ⟨g,c,cs,h1,Nat.le_trans hB h2,h3,h4⟩
theorem Zak.up {T:TypeId} {k:Nat} {v:Value} {n B':Nat} (h:Zak w B' T k v n) (m:Up w a):Zak a B' T k v n:=by
 rcases h with h | ⟨g,c,cs,h1,h2,h3,h4⟩
 ·exact .inl h
 ·exact .inr ⟨g,c,cs,h1,h2,(m.block g (Array.getElem?_eq_some_iff.1 h3).1).trans h3,h4⟩
def Zdf (w:World) (D:Nat→Prop) (T:TypeId) (k:Nat) (v:Value) (n:Nat):Prop:=
 (∃ c,v=.slice none 0 c∧n=0)∨∃ (g c:Nat) (cs:Array Value),v=.slice (some ⟨g,0,none⟩) n c∧D g∧w.heap[g]?=some (.cells cs T (0,0))∧n*k≤cs.size
theorem Zdf.mk {T:TypeId} {k:Nat} {v:Value} {n:Nat} {D':Nat→Prop} (h:Zdf w D' T k v n) (m:Mk TO D w a):Zdf a D' T k v n:=by
 rcases h with h | ⟨g,c,cs,h1,h2,h3,h4⟩
 ·exact .inl h
 ·obtain ⟨c1,k1,k2,_⟩:=m.row g cs T h3
  exact .inr ⟨g,c,c1,h1,h2,k1,by omega⟩
theorem Zak.toD {T:TypeId} {k:Nat} {v:Value} {n:Nat} (h:Zak w B T k v n):Zdf w (fun b=>B≤b∧b<w.heap.size) T k v n:=by
 rcases h with h | ⟨g,c,cs,h1,h2,h3,h4⟩
 ·exact .inl h
 ·exact .inr ⟨g,c,cs,h1,⟨h2,(Array.getElem?_eq_some_iff.1 h3).1⟩,h3,h4⟩
theorem Zdf.up {T:TypeId} {k:Nat} {v:Value} {n:Nat} {D':Nat→Prop} (h:Zdf w D' T k v n) (m:Up w a):Zdf a D' T k v n:=by
 rcases h with h | ⟨g,c,cs,h1,h2,h3,h4⟩
 ·exact .inl h
 ·exact .inr ⟨g,c,cs,h1,h2,(m.block g (Array.getElem?_eq_some_iff.1 h3).1).trans h3,h4⟩
def RowA (w:World) (g m:Nat) (T:TypeId):Prop:=∃ cs:Array Value,w.heap[g]?=some (.cells cs T (0,0))∧m≤cs.size
theorem RowA.mk {g m:Nat} {T:TypeId} (h:RowA w g m T) (k:Mk TO D w a):RowA a g m T:=by
 obtain ⟨cs,h1,h2⟩:=h
 obtain ⟨c1,k1,k2,_⟩:=k.row g cs T h1
 exact ⟨c1,k1,by omega⟩
theorem RowA.up {g m:Nat} {T:TypeId} (h:RowA w g m T) (k:Up w a):RowA a g m T:=by
 obtain ⟨cs,h1,h2⟩:=h
 exact ⟨cs,(k.block g (Array.getElem?_eq_some_iff.1 h1).1).trans h1,h2⟩
theorem RowA.cell {g m j:Nat} {T:TypeId} (h:RowA w g m T) (hj:j<m):(∃ u,w.cell? ⟨g,j,none⟩=some u)∧w.frozen? ⟨g,j,none⟩=false:=by
 obtain ⟨cs,h1,h2⟩:=h
 exact ⟨⟨cs[j]'(by omega),by rw [cell_of_row w g j cs T (0,0) h1]; exact Array.getElem?_eq_getElem _⟩,frozen_of_row w g j cs T h1⟩
theorem RowA.set {g m j:Nat} {T:TypeId} {g':Nat} (h:RowA w g m T) (hg:RowA w g' 0 T) (v:Value):RowA (w.setCell ⟨g',j,none⟩ v) g m T:=by
 obtain ⟨cs,h1,h2⟩:=h
 obtain ⟨cs',h1',_⟩:=hg
 by_cases e:g=g'
 ·subst e
  exact ⟨_,heap_setCell_same w g j cs T v h1,by simpa using h2⟩
 ·exact ⟨cs,(heap_setCell_other w ⟨g',j,none⟩ g v e).trans h1,h2⟩
theorem Mk.setR (h:Mk TO D w a) {g m j:Nat} {T:TypeId} (hg:RowA a g m T) (hBg:D g) (hT:¬ TO T j) (v:Value):Mk TO D w (a.setCell ⟨g,j,none⟩ v):=by
 obtain ⟨cs,h1,_⟩:=hg
 exact h.set h1 hBg hT v
theorem RowA.keep {g m j:Nat} {T:TypeId} (h:RowA w g m T) (v:Value):RowA (w.setCell ⟨g,j,none⟩ v) g m T:=h.set (by obtain ⟨cs,h1,_⟩:=h; exact ⟨cs,h1,Nat.zero_le _⟩) v
end
end Go.Proofs.YtmcdjilbkmhfoaaGreat
