/- A part of the proof of the statement in the last file of this claim: texts on the language of the program and on its functions. No condition. -/
import Derived.Test.YtkcnllbmpbhndaaGreatCNewOffice3
import Derived.IntWalk
import Derived.Test.YtkcnllbmpbhndaaGreatProg
namespace Go.Proofs.YtkcnllbmpbhndaaGreat
set_option maxRecDepth 10000
open Go.RowKit
set_option linter.unusedVariables false
set_option linter.unusedSimpArgs false
/-! What the rewriting need not go into. -/
@[congr] theorem ZuT {P:Program} {ops:Array Oper} {K:List PV→Mem→Prop} {rest:List Oper} {t:List PV} {t':List PV} {m:Mem} {m':Mem} (h_t:t=t') (h_m:m=m'):pops P ops K rest t m=pops P ops K rest t' m':=by subst h_t h_m; rfl
@[congr] theorem ZuD {P:Program} {wd:Nat} {base:Nat} {fl:List Nat} {ops:Array Oper} {KD:List LE→List PV→Mem→Prop} {i:Nat} {rest:List Oper} {g:List LE} {g':List LE} {t:List PV} {t':List PV} {m:Mem} {m':Mem} (h_t:t=t') (h_m:m=m') (h_g:g=g'):ZdZ P wd base fl ops KD i rest g t m=ZdZ P wd base fl ops KD i rest g' t' m':=by subst h_t h_m h_g; rfl
@[congr] theorem Zvj {P:Program} {ops:Array Oper} {K:List PV→Mem→Prop} {rest:List Oper} {t:List PV} {t':List PV} {d:Option Tmp} {p:PV} {p':PV} {m:Mem} {m':Mem} (h_t:t=t') (h_p:p=p') (h_m:m=m'):nxt P ops K rest t d p m=nxt P ops K rest t' d p' m':=by subst h_t h_p h_m; rfl
@[congr] theorem Zvh {P:Program} {wd:Nat} {base:Nat} {fl:List Nat} {ops:Array Oper} {KD:List LE→List PV→Mem→Prop} {i:Nat} {rest:List Oper} {g:List LE} {g':List LE} {t:List PV} {t':List PV} {d:Option Tmp} {p:PV} {p':PV} {m:Mem} {m':Mem} (h_t:t=t') (h_p:p=p') (h_m:m=m') (h_g:g=g'):nxd P wd base fl ops KD i rest g t d p m=nxd P wd base fl ops KD i rest g' t' d p' m':=by subst h_t h_p h_m h_g; rfl
@[congr] theorem Zvr {P:Program} {ops:Array Oper} {K:List PV→Mem→Prop} {rest:List Oper} {d:Option Tmp} {o:Op} {m:Mem} {m':Mem} {t:List PV} {t':List PV} (h_m:m=m') (h_t:t=t'):rgo P ops K rest d o m t=rgo P ops K rest d o m' t':=by subst h_m h_t; rfl
@[congr] theorem Zvn {P:Program} {ops:Array Oper} {K:List PV→Mem→Prop} {rest:List Oper} {d:Option Tmp} {m:Mem} {m':Mem} {t:List PV} {t':List PV} (h_m:m=m') (h_t:t=t'):pgo P ops K rest d m t=pgo P ops K rest d m' t':=by subst h_m h_t; rfl
@[congr] theorem Zvq {P:Program} {wd:Nat} {base:Nat} {fl:List Nat} {ops:Array Oper} {KD:List LE→List PV→Mem→Prop} {i:Nat} {rest:List Oper} {g:List LE} {oo:Oper} {m:Mem} {m':Mem} {t:List PV} {t':List PV} (h_m:m=m') (h_t:t=t'):rge P wd base fl ops KD i rest g oo m t=rge P wd base fl ops KD i rest g oo m' t':=by subst h_m h_t; rfl
@[congr] theorem Zvi {P:Program} {wd:Nat} {base:Nat} {fl:List Nat} {ops:Array Oper} {KD:List LE→List PV→Mem→Prop} {i:Nat} {rest:List Oper} {g:List LE} {oo:Oper} {ν ν':Nat} {t t':List PV} {ρ:List Nat} {p p':PV} {m m':Mem} (h_t:t=t') (h_p:p=p') (h_m:m=m') (h_n:ν=ν'):nxe P wd base fl ops KD i rest g oo ν t ρ p m=nxe P wd base fl ops KD i rest g oo ν' t' ρ p' m':=by subst h_t h_p h_m h_n; rfl
@[congr] theorem ZuS {P:Program} {wd ν ν':Nat} {o:Op} {t t':List PV} {m m':Mem} {K:List Nat→PV→Mem→Prop} (h_n:ν=ν') (h_t:t=t') (h_m:m=m'):popI P wd ν o t m K=popI P wd ν' o t' m' K:=by subst h_n h_t h_m; rfl
@[congr] theorem Zvk {P:Program} {wd ν ν':Nat} {f:FuncId} {ps ps':List PV} {m m':Mem} {K:List Nat→PV→Mem→Prop} (h_n:ν=ν') (h_p:ps=ps') (h_m:m=m'):pIO P wd ν f ps m K=pIO P wd ν' f ps' m' K:=by subst h_n h_p h_m; rfl
@[congr] theorem Zvp {P:Program} {wd:Nat} {base:Nat} {fl:List Nat} {ops:Array Oper} {KD:List LE→List PV→Mem→Prop} {i:Nat} {rest:List Oper} {g:List LE} {oo:Oper} {m:Mem} {m':Mem} {t:List PV} {t':List PV} (h_m:m=m') (h_t:t=t'):rgd P wd base fl ops KD i rest g oo m t=rgd P wd base fl ops KD i rest g oo m' t':=by subst h_m h_t; rfl
@[congr] theorem Zvm {P:Program} {wd:Nat} {base:Nat} {fl:List Nat} {ops:Array Oper} {KD:List LE→List PV→Mem→Prop} {i:Nat} {rest:List Oper} {g:List LE} {oo:Oper} {m:Mem} {m':Mem} {t:List PV} {t':List PV} (h_m:m=m') (h_t:t=t'):pgd P wd base fl ops KD i rest g oo m t=pgd P wd base fl ops KD i rest g oo m' t':=by subst h_m h_t; rfl
@[congr] theorem Zuy {b:Bool} {b':Bool} {y:List PV→Prop} {n:List PV→Prop} {t:List PV} {t':List PV} {i:Nat} (h_b:b=b') (h_t:t=t'):Zhi b y n t i=Zhi b' y n t' i:=by subst h_b h_t; rfl
@[congr] theorem Zvg {p:PV} {p':PV} {i:Nat} {t:List PV} {t':List PV} {b:Bool} {y:List PV→Prop} {n:List PV→Prop} (h_p:p=p') (h_t:t=t'):gdV p i t b y n=gdV p' i t' b y n:=by subst h_p h_t; rfl
@[congr] theorem Zvs {d:Option Tmp} {t:List PV} {t':List PV} {b:Bool} {y:List PV→Prop} {n:List PV→Prop} (h_t:t=t'):gd d t b y n=gd d t' b y n:=by subst h_t; rfl
@[congr] theorem ZuA {P:Program} {T:TypeId} {cs:Option (List PV)} {cs':Option (List PV)} {K:PV→Prop} (h_cs:cs=cs'):Zgm P T cs K=Zgm P T cs' K:=by subst h_cs; rfl
@[congr] theorem ZuL {P:Program} {op:BinOp} {T:TypeId} {x:PV} {x':PV} {y:PV} {y':PV} {K:PV→Prop} (h_x:x=x') (h_y:y=y'):pBin P op T x y K=pBin P op T x' y' K:=by subst h_x h_y; rfl
@[congr] theorem Zvl {op:UnOp} {x:PV} {x':PV} {K:PV→Prop} (h_x:x=x'):pUn op x K=pUn op x' K:=by subst h_x; rfl
@[congr] theorem ZtO {P:Program} {m:Mem} {m':Mem} {T:TypeId} {U:TypeId} {x:PV} {x':PV} {K:PV→Prop} (h_m:m=m') (h_x:x=x'):Zf1 P m T U x K=Zf1 P m' T U x' K:=by subst h_m h_x; rfl
@[congr] theorem ZtR {P:Program} {m:Mem} {m':Mem} {T:TypeId} {x:PV} {x':PV} {lo:Option PV} {lo':Option PV} {hi:Option PV} {hi':Option PV} {K:PV→Prop} (h_m:m=m') (h_x:x=x') (h_lo:lo=lo') (h_hi:hi=hi'):Zdq P m T x lo hi K=Zdq P m' T x' lo' hi' K:=by subst h_m h_x h_lo h_hi; rfl
@[congr] theorem ZqL {P:Program} {m:Mem} {m':Mem} {T:TypeId} {x:PV} {x':PV} {i:Nat} {K:PV→Prop} (h_m:m=m') (h_x:x=x'):Zcr P m T x i K=Zcr P m' T x' i K:=by subst h_m h_x; rfl
@[congr] theorem ZtP {P:Program} {T:TypeId} {x:PV} {x':PV} {i:Nat} {K:PV→Prop} (h_x:x=x'):ZhJ P T x i K=ZhJ P T x' i K:=by subst h_x; rfl
@[congr] theorem ZqM {P:Program} {m:Mem} {m':Mem} {T:TypeId} {x:PV} {x':PV} {y:PV} {y':PV} {K:PV→Prop} (h_m:m=m') (h_x:x=x') (h_y:y=y'):ZH P m T x y K=ZH P m' T x' y' K:=by subst h_m h_x h_y; rfl
@[congr] theorem ZtQ {P:Program} {T:TypeId} {x:PV} {x':PV} {y:PV} {y':PV} {K:PV→Prop} (h_x:x=x') (h_y:y=y'):Zf2 P T x y K=Zf2 P T x' y' K:=by subst h_x h_y; rfl
@[congr] theorem ZuO {i:Nat} {x:PV} {x':PV} {K:PV→Prop} (h_x:x=x'):pExt i x K=pExt i x' K:=by subst h_x; rfl
@[congr] theorem ZtN {P:Program} {T:TypeId} {ps:List (Nat × PV)} {ps':List (Nat × PV)} {K:PV→Prop} (h_ps:ps=ps'):ZhI P T ps K=ZhI P T ps' K:=by subst h_ps; rfl
@[congr] theorem ZuP {P:Program} {m:Mem} {m':Mem} {T:TypeId} {x:PV} {x':PV} {K:PV→Prop} (h_m:m=m') (h_x:x=x'):pLen P m T x K=pLen P m' T x' K:=by subst h_m h_x; rfl
@[congr] theorem ZtD {b:Bool} {ps:List PV} {ps':List PV} {K:PV→Prop} (h_ps:ps=ps'):Zfe b ps K=Zfe b ps' K:=by subst h_ps; rfl
@[congr] theorem ZuK {ov:Option Value} {ov':Option Value} {K:PV→Prop} (h_ov:ov=ov'):optK ov K=optK ov' K:=by subst h_ov; rfl
@[congr] theorem Zvf {P:Program} {op:BinOp} {T:TypeId} {cs:List PV} {cs':List PV} {ds:List PV} {ds':List PV} {K:PV→Prop} (h_cs:cs=cs') (h_ds:ds=ds'):eqK P op T cs ds K=eqK P op T cs' ds' K:=by subst h_cs h_ds; rfl
@[congr] theorem ZuQ {m:Mem} {m':Mem} {x:PV} {x':PV} {K:PV→Prop} (h_m:m=m') (h_x:x=x'):pNil m x K=pNil m' x' K:=by subst h_m h_x; rfl
@[congr] theorem ZuC {x:PV} {x':PV} {y:PV} {y':PV} {z:PV} {z':PV} {K:PV→Prop} (h_x:x=x') (h_y:y=y') (h_z:z=z'):Zn2 x y z K=Zn2 x' y' z' K:=by subst h_x h_y h_z; rfl
@[congr] theorem Zuz {P:Program} {io:Bool} {wd:Nat} {nu:Nat} {nu':Nat} {f:FuncId} {ps:List PV} {ps':List PV} {m:Mem} {m':Mem} {KA:PV→Mem→Prop} (h_ps:ps=ps') (h_m:m=m') (h_nu:nu=nu'):ZfC P io wd nu f ps m KA=ZfC P io wd nu' f ps' m' KA:=by subst h_ps h_m h_nu; rfl
@[congr] theorem ZuM {nu:Nat} {nu':Nat} {m:Mem} {m':Mem} {T:TypeId} {ocs:Option (List PV)} {ocs':Option (List PV)} {KA:PV→Mem→Prop} (h_nu:nu=nu') (h_m:m=m') (h_ocs:ocs=ocs'):pBox nu m T ocs KA=pBox nu' m' T ocs' KA:=by subst h_nu h_m h_ocs; rfl
@[congr] theorem ZqB {P:Program} {nu:Nat} {nu':Nat} {m:Mem} {m':Mem} {T:TypeId} {k:Nat} {ps:List (Nat × PV)} {ps':List (Nat × PV)} {KA:PV→Mem→Prop} (h_nu:nu=nu') (h_m:m=m') (h_ps:ps=ps'):Zdp P nu m T k ps KA=Zdp P nu' m' T k ps' KA:=by subst h_nu h_m h_ps; rfl
@[congr] theorem ZuB {P:Program} {nu:Nat} {nu':Nat} {m:Mem} {m':Mem} {T:TypeId} {x:PV} {x':PV} {y:PV} {y':PV} {KA:PV→Mem→Prop} (h_nu:nu=nu') (h_m:m=m') (h_x:x=x') (h_y:y=y'):ZiN P nu m T x y KA=ZiN P nu' m' T x' y' KA:=by subst h_nu h_m h_x h_y; rfl
@[congr] theorem ZtS {P:Program} {m:Mem} {m':Mem} {T:TypeId} {x:PV} {x':PV} {y:PV} {y':PV} {KA:PV→Mem→Prop} (h_m:m=m') (h_x:x=x') (h_y:y=y'):ZhK P m T x y KA=ZhK P m' T x' y' KA:=by subst h_m h_x h_y; rfl
@[congr] theorem ZtC {P:Program} {nu:Nat} {nu':Nat} {m:Mem} {m':Mem} {T:TypeId} {x:PV} {x':PV} {y:PV} {y':PV} {KA:PV→Mem→Prop} (h_nu:nu=nu') (h_m:m=m') (h_x:x=x') (h_y:y=y'):Zcq P nu m T x y KA=Zcq P nu' m' T x' y' KA:=by subst h_nu h_m h_x h_y; rfl
@[congr] theorem ZuN {P:Program} {io:Bool} {wd:Nat} {nu:Nat} {nu':Nat} {p:PV} {p':PV} {ps:List PV} {ps':List PV} {m:Mem} {m':Mem} {KA:PV→Mem→Prop} (h_nu:nu=nu') (h_p:p=p') (h_ps:ps=ps') (h_m:m=m'):pDyn P io wd nu p ps m KA=pDyn P io wd nu' p' ps' m' KA:=by subst h_nu h_p h_ps h_m; rfl
@[congr] theorem ZuR {P:Program} {io:Bool} {wd:Nat} {nu:Nat} {nu':Nat} {o:Op} {t:List PV} {t':List PV} {m:Mem} {m':Mem} {KA:PV→Mem→Prop} (h_nu:nu=nu') (h_t:t=t') (h_m:m=m'):popA P io wd nu o t m KA=popA P io wd nu' o t' m' KA:=by subst h_nu h_t h_m; rfl
@[congr] theorem ZuJ {ops2:List Oper} {K:List PV→Mem→Prop} {g:List LE} {t:List PV} {t':List PV} {m:Mem} {m':Mem} (h_t:t=t') (h_m:m=m'):endD ops2 K g t m=endD ops2 K g t' m':=by subst h_t h_m; rfl
@[congr] theorem Zvo {P:Program} {n0:Nat} {code:Code} {Q:Exit→List PV→Mem→Prop} {t:List PV} {t':List PV} {m:Mem} {m':Mem} (h_t:t=t') (h_m:m=m'):pwp P n0 code Q t m=pwp P n0 code Q t' m':=by subst h_t h_m; rfl
@[congr] theorem ZuE {K:List PV→Mem→Prop} {Q:Exit→List PV→Mem→Prop} {e:Exit} {e':Exit} {t:List PV} {t':List PV} {m:Mem} {m':Mem} (h_t:t=t') (h_m:m=m') (h_e:e=e'):Zf5 K Q e t m=Zf5 K Q e' t' m':=by subst h_t h_m h_e; rfl
@[congr] theorem ZtM {id:Nat} {Q:Exit→List PV→Mem→Prop} {e:Exit} {e':Exit} {t:List PV} {t':List PV} {m:Mem} {m':Mem} (h_t:t=t') (h_m:m=m') (h_e:e=e'):Zhz id Q e t m=Zhz id Q e' t' m':=by subst h_t h_m h_e; rfl
class ZaO (α:Type) where
 c:α→List PV
instance:ZaO Int:=⟨cInt⟩
instance:ZaO ByteArray:=⟨cStr⟩
instance:ZaO Bool:=⟨Zkw⟩
section
variable {P:Program} {n0:Nat} {Q:Exit→List PV→Mem→Prop} {t t':List PV} {m m':Mem} {K:List PV→Mem→Prop} {KR:PV→Prop} {KA:PV→Mem→Prop}
theorem HexL {σ ο β:Type} {s:σ} {F:σ→Option β} {K:ο→Option β} {r:β} (h:(some (Sum.inl s)).bind (Zp F K)=some r):F s=some r:=h
theorem bexR {σ ο β:Type} {o:ο} {F:σ→Option β} {K:ο→Option β}:(some (Sum.inr o)).bind (Zp F K)=K o:=nrfl rfl
theorem bsr {α β γ δ:Type} {o:β} {F:α→Option γ} {G:β→Option γ} {K:γ→Option δ}:(Zp F G (Sum.inr o)).bind K=(G o).bind K:=nrfl rfl
theorem bsl {α β γ δ:Type} {o:α} {F:α→Option γ} {G:β→Option γ} {K:γ→Option δ}:(Zp F G (Sum.inl o)).bind K=(F o).bind K:=nrfl rfl
theorem Hc1k {α β:Type} {G:Prop} {b:Bool} {A B:Option α} {K:α→Option β} {r:β} (h:(cond b A B).bind K=some r) (hb:b=true) (k:A.bind K=some r→G):G:=k (Hc1 h hb)
theorem Hc2k {α β:Type} {G:Prop} {b:Bool} {A B:Option α} {K:α→Option β} {r:β} (h:(cond b A B).bind K=some r) (hb:b=false) (k:B.bind K=some r→G):G:=k (Hc2 h hb)
theorem ZtY {c:Bool} {y n:List PV→Prop} {i:Nat} (h:Zhi c y n t i):Zhi c y n t i:=h
theorem idxS {T:TypeId} {es:List (List PV)} {i:PV} (h:ZH P m T (.sl es) i KR):ZH P m T (.sl es) i KR:=h
def mkOk (n bytes:Int):Bool:=decide (0≤n∧n≤1099511627776∧bytes*n≤140737488355328)
theorem mkS {T:TypeId} {ν:Nat} {x y:PV} (h:ZiN P ν m T x y KA):ZiN P ν m T x y KA:=h
theorem Zsh {T e k ν:Nat} {n b:Int} {zc:List PV} (hok:mkOk n b=true) (hu:P.underlying T=some (.slice e)) (hz:pz P e=some zc) (hb:(P.bytesOf e:Int)=b) (hc:P.cellsOf e=k) (hzl:zc.length=k) (hp:decide (0<k)=true) (hK:KA (.ms ν) (mput m ν ⟨e,k,List.replicate n.toNat zc⟩)):ZiN P ν m T (vi n) (vi n) KA:=by
 subst hb hc
 have hok':=of_decide_eq_true hok
 simp only [ZiN,hu,hz]
 exact ⟨trivial,hok'.1,of_decide_eq_true hp,hzl,hok'.2.1,hok'.2.2,hK⟩
theorem ZgQ {ρ:Nat→Option Nat}:∀ {cs:List PV},(∀ q∈cs,isC q=true)→cutL ρ m m' cs cs
 | [],_=>trivial
 | c::cs,h=>⟨.c c (h c List.mem_cons_self),ZgQ fun q hq=>h q (List.mem_cons_of_mem _ hq)⟩
theorem ZmZ {α:Type} {f:α→List PV} [hf:ZS f] {ρ:Nat→Option Nat}:∀ {xs:List α},cutE ρ m m' (xs.map f) (xs.map f)
 | []=>trivial
 | x::xs=>⟨ZgQ (hf.h x),ZmZ⟩
theorem Zf9 {α:Type} {f:α→List PV} [hf:ZS f] {ρ:Nat→Option Nat} {cs:List PV} {x:α} (h:cutL ρ m m' cs (f x)):∀ {xs:List α} {n:Nat},cutE ρ m m' ((xs.map f).set n cs) ((xs.set n x).map f)
 | [],_=>trivial
 | y::ys,0=>⟨h,ZmZ⟩
 | y::ys,n+1=>⟨ZgQ (hf.h y),Zf9 h⟩
theorem Zm0 {α:Type} {f:α→List PV} {ρ:Nat→Option Nat} {cs:List PV} {x:α} (h:cutL ρ m m' cs (f x)):∀ {n:Nat},cutE ρ m m' (List.replicate n cs) ((List.replicate n x).map f)
 | 0=>trivial
 | n+1=>⟨h,Zm0 h⟩
theorem ZgP {α:Type} {f:α→List PV} [hf:ZS f] {ρ:Nat→Option Nat} {cs:List PV} {x:α} (h:cutL ρ m m' cs (f x)):∀ {xs:List α},cutE ρ m m' (xs.map f++[cs]) ((xs++[x]).map f)
 | []=>⟨h,trivial⟩
 | y::ys=>⟨ZgQ (hf.h y),ZgP h⟩
theorem ZhZ {α:Type} {f:α→List PV} [ZS f] {ρ:Nat→Option Nat} {T k n:Nat} {cs:List PV} {x:α} {xs:List α} (h:cutL ρ m m' cs (f x)):cutF ρ m m' ⟨T,k,(xs.map f).set n cs⟩ ⟨T,k,(xs.set n x).map f⟩:=⟨⟨rfl,rfl,.inr (Zf9 h)⟩,fun _ _=>ZkJ rfl⟩
theorem ZmU {α:Type} {f:α→List PV} {ρ:Nat→Option Nat} {T k n:Nat} {cs:List PV} {x:α} (h:cutL ρ m m' cs (f x)):cutF ρ m m' ⟨T,k,List.replicate n cs⟩ ⟨T,k,(List.replicate n x).map f⟩:=⟨⟨rfl,rfl,.inr (Zm0 h)⟩,fun _ _=>ZkJ rfl⟩
theorem ZtU {ρ:Nat→Option Nat} {T k:Nat} {es es':List (List PV)} (h:cutE ρ m m' es es'):cutF ρ m m' ⟨T,k,es⟩ ⟨T,k,es'⟩:=⟨⟨rfl,rfl,.inr h⟩,fun _ _=>ZkJ rfl⟩
theorem ZrV {ρ:Nat→Option Nat}:cutE ρ m m' [] []:=trivial
theorem ZrU {ρ:Nat→Option Nat} {cs ds:List PV} {es es':List (List PV)} (h:cutL ρ m m' cs ds) (h':cutE ρ m m' es es'):cutE ρ m m' (cs::es) (ds::es'):=⟨h,h'⟩
theorem ZmS {ρ:Nat→Option Nat} {T:TK} {k:Nat}:cutF ρ m m' ⟨T,k,[]⟩ ⟨T,k,[]⟩:=⟨⟨rfl,rfl,.inr trivial⟩,fun _ _=>ZkK⟩
theorem ZmV {ρ:Nat→Option Nat} {T k:Nat} {a b c d:List PV} {es es':List (List PV)} (h:cutE ρ m m' (a::b::es) (c::d::es')):cutF ρ m m' ⟨T,k,a::b::es⟩ ⟨T,k,c::d::es'⟩:=ZtU h
theorem ZkH {α:Type} {f:α→List PV} [ZS f] {ρ:Nat→Option Nat} {T k:Nat} {cs:List PV} {x:α} {xs:List α} (h:cutL ρ m m' cs (f x)):cutF ρ m m' ⟨T,k,xs.map f++[cs]⟩ ⟨T,k,(xs++[x]).map f⟩:=⟨⟨rfl,rfl,.inr (ZgP h)⟩,fun _ _=>ZkJ rfl⟩
/-! Keyed rows. -/
def isKd:Option MB→Bool
 | some mb=>mb.T.kd.isSome
 | none=>false
def Zs7 (m:Mem):Bool:=decide ((m.filter isKd).length≤1)
theorem Zjp {α:Type} {p:α→Bool}:∀ {l:List α} {i j:Nat} {x y:α},(l.filter p).length≤1→l[i]?=some x→l[j]?=some y→p x=true→p y=true→i=j
 | [],i,j,x,y,_,h1,_,_,_=>by simp at h1
 | a::l,i,j,x,y,h,h1,h2,hx,hy=>by
  cases hp:p a with
  | false=>
   rw [List.filter_cons_of_neg (by simp [hp])] at h
   cases i with
   | zero=>simp at h1; subst h1; rw [hp] at hx; cases hx
   | succ i=>
    cases j with
    | zero=>simp at h2; subst h2; rw [hp] at hy; cases hy
    | succ j=>exact congrArg Nat.succ (Zjp (l:=l) (p:=p) h (x:=x) (y:=y) (by simpa using h1) (by simpa using h2) hx hy)
  | true=>
   rw [List.filter_cons_of_pos hp,List.length_cons] at h
   have h0:l.filter p=[]:=List.length_eq_zero_iff.1 (by omega)
   have no:∀ {k:Nat} {z:α},l[k]?=some z→p z=true→False:=fun {k z} hk hz=>by
    have hm:z∈l.filter p:=List.mem_filter.2 ⟨List.mem_of_getElem? hk,hz⟩
    rw [h0] at hm
    cases hm
   cases i with
   | succ i=>exact (no (by simpa using h1) hx).elim
   | zero=>
    cases j with
    | succ j=>exact (no (by simpa using h2) hy).elim
    | zero=>rfl
def msAt:Nat→List PV→Option (Nat × Nat)
 | _,[]=>none
 | j,.ms l::cs=>if cs.all noMs=true then some (l,j) else none
 | _,.ss ..::_=>none
 | j,_::cs=>msAt (j+1) cs
theorem Zrk {cs:List PV} {o l j:Nat} (h:msAt o cs=some (l,j)):∃ j0,j=o+j0∧cs[j0]?=some (.ms l)∧∀ (i:Nat) (p:PV),cs[i]?=some p→i=j0∨noMs p=true:=by
 induction cs generalizing o with
 | nil=>cases h
 | cons p cs ih=>
  cases p with
  | ms k=>
   simp only [msAt] at h
   split at h
   ·rename_i hc
    simp only [Option.some.injEq,Prod.mk.injEq] at h
    obtain ⟨rfl,rfl⟩:=h
    refine ⟨0,rfl,rfl,fun i p hp=>?_⟩
    cases i with
    | zero=>exact .inl rfl
    | succ i=>exact .inr (List.all_eq_true.1 hc p (List.mem_of_getElem? (by simpa using hp)))
   ·cases h
  | ss a b c=>simp [msAt] at h
  | _=>
   have h':msAt (o+1) cs=some (l,j):=h
   obtain ⟨j0,e,h1,h2⟩:=ih h'
   refine ⟨j0+1,by omega,by simpa using h1,fun i q hq=>?_⟩
   cases i with
   | zero=>
    right
    simp only [List.getElem?_cons_zero,Option.some.injEq] at hq
    subst hq
    rfl
   | succ i=>
    rcases h2 i q (by simpa using hq) with h | h
    ·left; omega
    ·exact .inr h
theorem Zpz {p:PV} (h:isC p=true):noMs p=true:=by
 cases p with
 | ms=>cases h
 | ss=>cases h
 | _=>rfl
theorem ZoW {ρ:Nat→Option Nat} {t t':TypeId} {k k':Nat} {es es':List (List PV)} {cs:List PV} {n l j:Nat} (h:cutE ρ m m' es es') (hn:es[n]?=some cs) (ho:∀ (i:Nat) (ds:List PV),es[i]?=some ds→i≠n→∀ p∈ds,noMs p=true)
 (hm:msAt 0 cs=some (l,j)) (h1:Zs7 m=true) {T2:TK} {k2:Nat} {es2:List (List PV)} (hl:look m l=some ⟨T2,k2,es2⟩) (ht:T2.t=t') {k0:Nat} (hk0:m[k0]?=some (some ⟨⟨t,some t'⟩,k,es⟩)):cutK ρ m m' ⟨⟨t,some t'⟩,k,es⟩ ⟨⟨t,some t'⟩,k',es'⟩:=by
 obtain ⟨j0,ej,g1,g2⟩:=Zrk hm
 rw [Nat.zero_add] at ej
 subst ej
 intro T1 hT i ds j1 e hi hj hne
 have hT':some t'=some T1:=hT
 obtain ⟨cs1,c1,c2⟩:=(ZfH h).2 i ds hi
 obtain ⟨p,p1,p2⟩:=(Zga c2).2 j1 _ hj
 by_cases hms:noMs p=true
 ·have:=ZoU p2 hms hne
  subst this
  exact .inl ⟨hT,cs1,c1,p1⟩
 ·right
  have hin:i=n:=by
   rcases Nat.decEq i n with h | h
   ·exact absurd (ho i cs1 c1 h p (List.mem_of_getElem? p1)) hms
   ·exact h
  subst hin
  rw [hn] at c1
  obtain rfl:=Option.some.inj c1
  have hj1:j1=j:=by
   rcases g2 j1 p p1 with h | h
   ·exact h
   ·exact absurd h hms
  subst hj1
  rw [g1] at p1
  obtain rfl:=Option.some.inj p1
  have huni:∀ q',AdAt m l q'→q'=(t,i,j1):=by
   rintro q' ⟨l',mb',T',i',cs',j',a1,a2,a3,a4,rfl⟩
   have e:l'=k0:=Zjp (p:=isKd) (of_decide_eq_true h1) a1 hk0 (by simp [isKd,a2]) rfl
   subst e
   rw [hk0] at a1
   obtain rfl:(⟨⟨t,some t'⟩,k,es⟩:MB)=mb':=by simpa using a1
   have hi':i'=i:=by
    rcases Nat.decEq i' i with h | h
    ·have:=ho i' cs' a3 h _ (List.mem_of_getElem? a4); cases this
    ·exact h
   subst hi'
   rw [hn] at a3
   obtain rfl:=Option.some.inj a3
   rcases g2 j' _ a4 with h | h
   ·rw [h]
   ·cases h
  generalize hq:PV.sl e=q at p2
  cases p2 with
  | fms _ mk hm2 hc hd=>
   have:=Zda.1 hl
   rw [hm2] at this
   obtain rfl:mk=⟨T2,k2,es2⟩:=by simpa using this
   refine ⟨_,l,_,hn,g1,⟨⟨k0,_,t',i,_,j1,hk0,rfl,hn,g1,rfl⟩,huni⟩,hm2,?_,?_,hd⟩
   ·rw [← Option.some.inj hT']; exact ht
   ·simpa using hq.symm
  | un=>cases hq
  | c _ h=>cases h
  | ms=>cases hq
theorem Zjl {α:Type} {f:α→List PV} [hf:ZS f] {ρ:Nat→Option Nat} {t t':TypeId} {k l j k2:Nat} {T2:TK} {es2:List (List PV)} {cs:List PV} {x:α} {xs:List α} (hm:msAt 0 cs=some (l,j)) (h1:Zs7 m=true) (hl:look m l=some ⟨T2,k2,es2⟩) (ht:T2.t=t') (h:cutL ρ m m' cs (f x)):
 cutF ρ m m' ⟨⟨t,some t'⟩,k,xs.map f++[cs]⟩ ⟨⟨t,some t'⟩,k,(xs++[x]).map f⟩:=by
 refine ⟨⟨rfl,rfl,.inr (ZgP h)⟩,fun k0 hk0=>ZoW (n:=xs.length) (cs:=cs) (ZgP h) (by simp) (fun i ds hi hne p hp=>?_) hm h1 hl ht hk0⟩
 rcases Nat.lt_or_ge i xs.length with hlt | hge
 ·rw [List.getElem?_append_left (by simpa using hlt),List.getElem?_map] at hi
  obtain ⟨y,_,rfl⟩:=Option.map_eq_some_iff.1 hi
  exact Zpz (hf.h y p hp)
 ·have:=(List.getElem?_eq_some_iff.1 hi).1
  simp at this
  omega
theorem ZkF {α:Type} {f:α→List PV} [hf:ZS f] {ρ:Nat→Option Nat} {t t':TypeId} {k l j k2 n:Nat} {T2:TK} {es2:List (List PV)} {cs:List PV} {x:α} {xs:List α} (hn:n<xs.length) (hm:msAt 0 cs=some (l,j)) (h1:Zs7 m=true) (hl:look m l=some ⟨T2,k2,es2⟩) (ht:T2.t=t') (h:cutL ρ m m' cs (f x)):
 cutF ρ m m' ⟨⟨t,some t'⟩,k,(xs.map f).set n cs⟩ ⟨⟨t,some t'⟩,k,(xs.set n x).map f⟩:=by
 refine ⟨⟨rfl,rfl,.inr (Zf9 h)⟩,fun k0 hk0=>ZoW (n:=n) (cs:=cs) (Zf9 h) (List.getElem?_set_self (by simpa using hn)) (fun i ds hi hne p hp=>?_) hm h1 hl ht hk0⟩
 rw [List.getElem?_set_ne (Ne.symm hne),List.getElem?_map] at hi
 obtain ⟨y,_,rfl⟩:=Option.map_eq_some_iff.1 hi
 exact Zpz (hf.h y p hp)
theorem ZkG {α:Type} {f:α→List PV} [hf:ZS f] {ρ:Nat→Option Nat} {T:TK} {k n:Nat} {cs:List PV} {x:α} {xs:List α} (hn:cs.all noMs=true) (h:cutL ρ m m' cs (f x)):cutF ρ m m' ⟨T,k,(xs.map f).set n cs⟩ ⟨T,k,(xs.set n x).map f⟩:=by
 refine ⟨⟨rfl,rfl,.inr (Zf9 h)⟩,fun _ _=>ZtV (Zf9 h) fun ds hds p hp=>?_⟩
 rcases List.mem_or_eq_of_mem_set hds with hds | rfl
 ·obtain ⟨y,_,rfl⟩:=List.mem_map.1 hds
  exact Zpz (hf.h y p hp)
 ·exact List.all_eq_true.1 hn p hp
theorem idxM {T:TypeId} {l:Nat} {i:PV} (h:ZH P m T (.ms l) i KR):ZH P m T (.ms l) i KR:=h
theorem Zph {α:Type} [ZaO α] {xs:List α} {x:α} {T:TypeId} {T':TK} {l k':Nat} {i:Int} {k:IntKind} (h:getI xs i=some x) (hm:look m l=some ⟨T',k',xs.map ZaO.c⟩) (hp:0<Zd6 P T) (hk:k'=Zd6 P T) (hK:KR (.be l i.toNat 0)):ZH P m T (.ms l) (.v (.int k i)) KR:=Zt3 h hm hp hk hK
theorem Zgp {α:Type} {f:α→List PV} {xs:List α} {x:α} {i:Int} (h:getI xs i=some x):(xs.map f)[i.toNat]?=some (f x):=by
 rw [List.getElem?_map,(ZgT h).2]; rfl
theorem Zls {α:Type} [ZaO α] {xs:List α} {T T':TypeId} {r k:Nat} {lo hi:Option PV} {l h:Int} (hok:slOk l h xs.length=true) (hm:look m r=some ⟨T',k,xs.map ZaO.c⟩) (hlo:pBd lo 0=some l) (hhi:pBd hi xs.length=some h) (hp:0<Zd6 P T) (hk:k=Zd6 P T) (hK:KR (.ss r l.toNat h.toNat)):Zdq P m T (.ms r) lo hi KR:=by
 obtain ⟨e,hu,he⟩:=ZgR hp
 rw [he] at hp hk
 have hok':=of_decide_eq_true hok
 simp only [Zdq,hu,ZeJ,hm,List.length_map,hlo,hhi]
 exact ⟨hok'.1,hok'.2.1,hok'.2.2,hp,hk,hK⟩
theorem Zuq {α:Type} [ZaO α] {xs:List α} {T':TypeId} {r k:Nat} {a b:Int} (hm:look m r=some ⟨T',k,xs.map ZaO.c⟩):ZfN m (.ss r a.toNat b.toNat)=some ((subL xs a b).map ZaO.c):=by
 have h:=Zda.1 hm
 simp only [ZfN,h,Zfo,Zft,subL]
theorem Zkk {α:Type} [ZaO α] {xs:List α} {T':TypeId} {r k A B:Nat} {a b:Int} (hm:look m r=some ⟨T',k,xs.map ZaO.c⟩) (hA:A=a.toNat) (hB:B=b.toNat):ZfN m (.ss r A B)=some ((subL xs a b).map ZaO.c):=by subst hA hB; exact Zuq hm
theorem Zq1 {cs:List PV} (h:cs.all isC=true):ZeZ false (.ag cs):=fun c hc=>Zgc (List.all_eq_true.1 h c hc)
theorem Zsc {cs:List PV} (h:cs.all isF=true):ZeZ true (.ag cs):=fun c hc=>Znc (List.all_eq_true.1 h c hc)
theorem Zq2 {ps:List PV} (h:ps.all isCA=true):ZeZ false (.tu ps):=fun c hc=>(Zh1 (σ:=id) (List.all_eq_true.1 h c hc)).2.1
theorem idxB {T:TypeId} {s:ByteArray} {i:PV} (h:Zf2 P T (.v (.string s)) i KR):Zf2 P T (.v (.string s)) i KR:=h
theorem slcS {T:TypeId} {x:PV} {lo hi:Option PV} (h:Zdq P m T x lo hi KR):Zdq P m T x lo hi KR:=h
theorem appS {T:TypeId} {ν:Nat} {x y:PV} (h:Zcq P ν m T x y KA):Zcq P ν m T x y KA:=h
theorem ZtL {f:FuncId} {ps:List PV} {io:Bool} {wd ν:Nat} (h:ZfC P io wd ν f ps m KA):ZfC P io wd ν f ps m KA:=h
theorem optS {o:Option Value} (h:optK o KR):optK o KR:=h
theorem Zt6 {c:Code} (h:pwp P n0 (.loop c) Q t m):pwp P n0 (.loop c) Q t m:=h
theorem cutS (h:Cuts n0 t m t' m'):Cuts n0 t m t' m':=h
theorem all_nil {α:Type} {p:α→Prop}:(∀ x∈([]:List α),p x)=True:=by simp
theorem all_cons {α:Type} {p:α→Prop} {a:α} {as_:List α}:(∀ x∈a::as_,p x)=(p a∧∀ x∈as_,p x):=by simp
theorem Zug {cs:List PV}:rdp m (.rp cs)=some cs:=nrfl rfl
theorem ZoD {α:Type} [ZaO α] {xs ys:List α} {T:TypeId} {ν l e k n b:Nat} {x:PV} {zc:List PV} (hok:Zaj (xs.length+ys.length) b=true) (hu:P.underlying T=some (.slice e)) (hz:pz P e=some zc) (hb:P.bytesOf e=b) (hc:P.cellsOf e=n) (hl:look m l=some ⟨e,k,xs.map ZaO.c⟩) (hsrc:ZfN m x=some (ys.map ZaO.c))
 (hzl:zc.length=n) (hp:decide (0<n)=true) (hf:∀ x:α,(ZaO.c x).length=n) (hk:k=n) (hK:KA (.ms ν) (mput (m.set l none) ν ⟨e,k,(xs++ys).map ZaO.c⟩)):Zcq P ν m T (.ms l) x KA:=by
 subst hb hc
 exact ZtI hok hu hz hsrc hl hzl (of_decide_eq_true hp) hf hk hK
theorem ZoC {α:Type} [ZaO α] {xs ys:List α} {cs:List PV} {T:TypeId} {ν l e k n b t':Nat} {x:PV} {zc:List PV} (hok:Zaj (xs.length+ys.length) b=true) (hy:ys.length=1) (hu:P.underlying T=some (.slice e)) (hz:pz P e=some zc) (hb:P.bytesOf e=b) (hc:P.cellsOf e=n) (hl:look m l=some ⟨⟨e,some t'⟩,k,xs.map ZaO.c⟩) (hsrc:ZfN m x=some [cs])
 (hst:cs.all noSl=true) (hcl:cs.length=n) (hzl:zc.length=n) (hp:decide (0<n)=true) (hk:k=n) (hK:KA (.ms ν) (mput (m.set l none) ν ⟨⟨e,some t'⟩,k,xs.map ZaO.c++[cs]⟩)):Zcq P ν m T (.ms l) x KA:=by
 subst hk
 subst hb
 have hok':=of_decide_eq_true hok
 rw [hy] at hok'
 simp only [Zcq,hu,hz,hsrc,ZeJ,hl,List.length_map,List.length_cons,List.length_nil,hc]
 refine ⟨hzl,of_decide_eq_true hp,fun ds hds=>?_,trivial,trivial,hok'.1,hok'.2,?_⟩
 ·rw [List.mem_singleton] at hds
  subst hds; exact hcl
 ·have e:(⟨e,some t'⟩:TK).sts [cs]=⟨e,some t'⟩:=by
   unfold TK.sts TK.stb
   simp only [List.all_cons,List.all_nil,Bool.and_true,hst,if_true]
  rw [e]; exact hK
theorem ZoE {α:Type} [ZaO α] {ys:List α} {T:TypeId} {ν e n b:Nat} {x:PV} {zc:List PV} (hok:Zaj ys.length b=true) (hu:P.underlying T=some (.slice e)) (hz:pz P e=some zc) (hb:P.bytesOf e=b) (hc:P.cellsOf e=n) (hsrc:ZfN m x=some (ys.map ZaO.c))
 (hzl:zc.length=n) (hp:decide (0<n)=true) (hf:∀ x:α,(ZaO.c x).length=n) (hK:KA (.ms ν) (mput m ν ⟨e,n,ys.map ZaO.c⟩)):Zcq P ν m T (.v (.slice none 0 0)) x KA:=by
 subst hb hc
 exact ZtJ hok hu hz hsrc hzl (of_decide_eq_true hp) hf hK
theorem ZkV {b:Bool}:∀ mb,some mb∈([]:Mem)→∀ cs∈mb.es,∀ p∈cs,ZY b p:=by intro mb h; cases h
theorem Zgo {α:Type} {f:α→List PV} [ZS f] {T:TK} {k:Nat} {xs:List α}:∀ mb,some mb∈([some ⟨T,k,xs.map f⟩]:Mem)→∀ cs∈mb.es,∀ p∈cs,ZY false p:=by
 intro mb h
 simp only [List.mem_singleton,Option.some.injEq] at h
 subst h
 exact of_eq_true Zpf
theorem Zhj {α:Type} {f:α→List PV} [Zgl f] {T:TK} {k:Nat} {xs:List α}:∀ mb,some mb∈([some ⟨T,k,xs.map f⟩]:Mem)→∀ cs∈mb.es,∀ p∈cs,ZY true p:=by
 intro mb h
 simp only [List.mem_singleton,Option.some.injEq] at h
 subst h
 exact of_eq_true Zpg
theorem hm_c {x:Option MB} {m:Mem} {b:Bool} (h1:∀ mb,some mb∈([x]:Mem)→∀ cs∈mb.es,∀ p∈cs,ZY b p) (h2:∀ mb,some mb∈m→∀ cs∈mb.es,∀ p∈cs,ZY b p):∀ mb,some mb∈(x::m)→∀ cs∈mb.es,∀ p∈cs,ZY b p:=by
 intro mb h
 rcases List.mem_cons.1 h with h | h
 ·exact h1 mb (by simp [h])
 ·exact h2 mb h
end
theorem Zu6 {n:Nat} {qs:List PV}:(TK.of n).st qs=TK.of n:=nrfl rfl
theorem Zu5 {t t':TypeId} {x:Value}:(TK.mk t (some t')).st [.v x]=TK.mk t (some t'):=nrfl rfl
theorem Zur {n:Nat} {es:List (List PV)}:(TK.of n).sts es=TK.of n:=nrfl rfl
attribute [go_sem] Zu6 Zu5 Zur U_z U_s Zug Zu4 Zu3 Zpe Zpd Zu2 Zu1 Zu0 Zl5 ZlJ Ztl Ztc Zq4 Zq3 Zry Ztf Zte Zl3 ZpN Zrx Zrw Ztj Ztk Zl4 Zq7 Zpm ZpM Ztb ZsR ZsQ Zt0 ZtZ Zt1 ZpT ZpS ZlS ZsN ZjQ ZsP ZtX ZsO ZqZ ZpJ Zml Zs9 Zs8 ZpK ZpI Zka Zn4 ZpL Zlg Zn9 Zja Zn6 Zjb Zn7 Zlh Zn5 Zj9 Zrs Zru Zrt Zn3 Zrq ZiP Zjc Zoa Zmk ZpH Zrr ZpC Zuf ZiB ZiA Zt8 Zt7 Zs3 Zs4 Zua Zt9 Zup Zun Zuo Zue Zud Zqh Zqj Zqi Zlp Zp7 Zod ZfM Ze8 Zfo Zft pBin binV pUn Zcr ZhJ pExt pLen Zfe Zgm aggd pBox pc ZhK pNil Zdr Zcx Zhx Zi0 Zgu Zhb Option.bind_some List.length_map if_true if_false Bool.false_eq_true List.map_cons List.map_nil List.toList_toArray beq_self_eq_true ite_self Int.toNat_natCast true_and and_true List.length_nil List.nil_append List.append_nil Nat.zero_add List.drop_zero List.drop_succ_cons List.take_zero List.take_succ_cons List.length_cons List.cons_append Option.map_some List.replicate_zero Bool.not_true Bool.not_false renV renA renC ren1 Zcs ZeS Zn2 Zmf Zf1 pBd Option.map_none ZhI Zi5 Zdp Zhf Zje all_cons all_nil Nat.zero_lt_succ Nat.lt_add_one and_self
theorem Zy {n:Int} (h:-9223372036854775808≤n∧n≤9223372036854775807):w64 n=n:=IntWalk.i64_in n h
theorem Zq {i n:Nat} (hi:i<n) (hn:n≤1152921504606846976):w64 ((i:Int)+1)=((i+1:Nat):Int):=by
 rw [Zy (by omega)]; omega
theorem Zi {α:Type} {xs:List α} {i:Nat}:getI xs (i:Int)=xs[i]?:=by
 unfold getI; rw [if_pos (by omega)]; simp
theorem Ze5 {b:Bool} (h:b=true):chk b=some ():=by subst h; rfl
def runL {A α ο:Type} (F:Nat→A→α→Option (A ⊕ ο)) (E:A→Option ο):Nat→List α→A→Option ο
 | _,[],a=>E a
 | i,x::xs,a=>(F i a x).bind (Zp (fun a'=>runL F E (i+1) xs a') some)
theorem ZkX {A α σ ο:Type} {xs:List α} {body:σ→Option (σ ⊕ ο)} {mk:A→Int→σ} {F:Nat→A→α→Option (A ⊕ ο)} {E:A→Option ο}
 (h1:∀ a (i:Nat) x,xs[i]?=some x→body (mk a i)=(F i a x).bind (Zp (fun a'=>some (.inl (mk a' ((i+1:Nat):Int)))) (fun r=>some (.inr r))))
 (h2:∀ a,body (mk a (xs.length:Int))=(E a).bind fun r=>some (.inr r)):
 ∀ (ys:List α) (i:Nat) (N:Nat) (a:A),xs.drop i=ys→i≤xs.length→ys.length<N→Zc body N (mk a i)=runL F E i ys a
 | [],i,0,a,_,_,hN=>by omega
 | [],i,N+1,a,hd,hi,hN=>by
  have:i=xs.length:=by have:=congrArg List.length hd; simp at this; omega
  subst this
  simp only [Zc,runL,h2]
  cases E a <;> rfl
 | y::ys,i,0,a,_,_,hN=>by simp at hN
 | y::ys,i,N+1,a,hd,hi,hN=>by
  have hy:xs[i]?=some y:=by
   have:=congrArg (fun l=>l[0]?) hd
   simpa using this
  have hlt:i<xs.length:=(List.getElem?_eq_some_iff.1 hy).1
  have hd':xs.drop (i+1)=ys:=by
   have:=congrArg (List.drop 1) hd
   simpa [List.drop_drop] using this
  simp only [Zc,runL,h1 a i y hy]
  cases hF:F i a y with
  | none=>rfl
  | some o=>
   cases o with
   | inl a'=>
    show Zc body N (mk a' ((i+1:Nat):Int))=runL F E (i+1) ys a'
    exact ZkX h1 h2 ys (i+1) N a' hd' hlt (by simp at hN; omega)
   | inr r=>rfl
theorem Ziu {A α σ ο:Type} {xs:List α} {body:σ→Option (σ ⊕ ο)} {N:Nat} (mk:A→Int→σ) (F:Nat→A→α→Option (A ⊕ ο)) (E:A→Option ο)
 (h1:∀ a (i:Nat) x,xs[i]?=some x→body (mk a i)=(F i a x).bind (Zp (fun a'=>some (.inl (mk a' ((i+1:Nat):Int)))) (fun r=>some (.inr r))))
 (h2:∀ a,body (mk a (xs.length:Int))=(E a).bind fun r=>some (.inr r)) (hN:xs.length<N) (a:A):Zc body N (mk a 0)=runL F E 0 xs a:=
 ZkX h1 h2 xs 0 N a rfl (Nat.zero_le _) hN
theorem Zlr {α ο:Type} {o:ο}:∀ (xs:List α) (i:Nat),runL (fun _ (_:Unit) (_:α)=>some (.inl ())) (fun _=>some o) i xs ()=some o
 | [],i=>rfl
 | x::xs,i=>by simp only [runL]; exact Zlr xs (i+1)
theorem Zh3 {σ ο:Type} {body:σ→Option (σ ⊕ ο)} (I:Nat→σ→Prop) (hI:∀ k s,I k s→∃ o,body s=some o∧∀ s',o=.inl s'→∃ k',k'<k∧I k' s'):∀ (N k:Nat) (s:σ),I k s→k<N→∃ o,Zc body N s=some o
 | 0,k,s,_,hN=>by omega
 | N+1,k,s,h,hN=>by
  obtain ⟨o,hb,hn⟩:=hI k s h
  simp only [Zc,hb]
  cases o with
  | inr r=>exact ⟨r,rfl⟩
  | inl s'=>
   obtain ⟨k',hk,hi⟩:=hn s' rfl
   exact Zh3 I hI N k' s' hi (by omega)
theorem Zh2 {ο:Type} {body:Int→Option (Int ⊕ ο)} {n:Nat} (hn:n<NN) (h:∀ i:Nat,i<n→∃ o,body (i:Int)=some o∧∀ s',o=.inl s'→s'=((i+1:Nat):Int)) (he:∃ r,body (n:Int)=some (.inr r)):∃ o,Zc body NN 0=some o:=by
 refine Zh3 (fun k s=>∃ i:Nat,i+k=n∧s=(i:Int)) ?_ NN n 0 ⟨0,by omega,rfl⟩ hn
 rintro k s ⟨i,hi,rfl⟩
 rcases Nat.lt_or_ge i n with hlt | hge
 ·obtain ⟨o,ho,hs⟩:=h i hlt
  exact ⟨o,ho,fun s' e=>⟨k-1,by omega,i+1,by omega,hs s' e⟩⟩
 ·obtain ⟨r,hr⟩:=he
  have:i=n:=by omega
  subst this
  exact ⟨_,hr,fun s' e=>by cases e⟩
theorem Zmt {ο:Type} {x:Option (Int ⊕ ο)} {i:Nat} (e:x=some (.inl ((i+1:Nat):Int))):∃ o,x=some o∧∀ s',o=.inl s'→s'=((i+1:Nat):Int):=⟨_,e,by rintro s' h; cases h; rfl⟩
theorem ZlB {ο:Type} {x:Option (Int ⊕ ο)} {i:Nat} {r:ο} (e:x=some (.inr r)):∃ o,x=some o∧∀ s',o=.inl s'→s'=((i+1:Nat):Int):=⟨_,e,by rintro s' h; cases h⟩
theorem Zdb {α ο:Type} {xs:List α} {body:Int→Option (Int ⊕ ο)} {o:ο} (h1:∀ (i:Nat) x,xs[i]?=some x→body (i:Int)=some (.inl ((i+1:Nat):Int))) (h2:body (xs.length:Int)=some (.inr o)) (hN:xs.length<NN):Zc body NN 0=some o:=by
 refine (Ziu (A:=Unit) (fun _ i=>i) (fun _ _ _=>some (.inl ())) (fun _=>some o) ?_ ?_ hN ()).trans (Zlr xs 0)
 ·intro a i x hx; rw [h1 i x hx]; rfl
 ·intro a; rw [h2]; rfl
theorem ZgV {α:Type} {xs:List α} {z:α} {body:Int × List α→Option ((Int × List α) ⊕ List α)}
 (h1:∀ (i:Nat) (out:List α) x,xs[i]?=some x→out.length=xs.length→body ((i:Int),out)=some (.inl (((i+1:Nat):Int),out.set i x)))
 (h2:∀ out:List α,body ((xs.length:Int),out)=some (.inr out)) (hN:xs.length<NN):Zc body NN (0,List.replicate xs.length z)=some xs:=by
 have key:∀ (k i N:Nat) (out:List α),i+k=xs.length→k<N→out.length=xs.length→out.take i=xs.take i→Zc body N ((i:Int),out)=some xs:=by
  intro k
  induction k with
  | zero=>
   intro i N out hi hk hl ht
   cases N with
   | zero=>omega
   | succ N=>
    have hi':i=xs.length:=by omega
    subst hi'
    simp only [Zc,h2]
    have:out=xs:=by rw [← List.take_length (l:=out),hl,ht,List.take_length]
    rw [this]; rfl
  | succ k ih=>
   intro i N out hi hk hl ht
   cases N with
   | zero=>omega
   | succ N=>
    have hlt:i<xs.length:=by omega
    simp only [Zc,h1 i out xs[i] (List.getElem?_eq_getElem hlt) hl]
    refine ih (i+1) N _ (by omega) (by omega) (by simpa using hl) ?_
    rw [List.take_add_one,List.take_add_one,List.getElem?_set_self (by omega),List.getElem?_eq_getElem hlt,List.take_set_of_le (Nat.le_refl i),ht]
 exact key xs.length 0 NN _ (by omega) hN (by simp) (by simp)
theorem Zfx {ο:Type} {body:Int→Option (Int ⊕ ο)} {n:Nat} {c:Nat→Bool} {r e:ο} (h1:∀ i:Nat,i<n→(∀ j,j<i→c j=true)→body (i:Int)=some (if c i=true then .inl ((i+1:Nat):Int) else .inr r)) (h2:(∀ j,j<n→c j=true)→body (n:Int)=some (.inr e)) (hN:n<NN):
 Zc body NN 0=some (if (List.range n).all c=true then e else r):=by
 have key:∀ (k i N:Nat),i+k=n→k<N→(∀ j,j<i→c j=true)→Zc body N (i:Int)=some (if (List.range n).all c=true then e else r):=by
  intro k
  induction k with
  | zero=>
   intro i N hi hk hj
   cases N with
   | zero=>omega
   | succ N=>
    have:i=n:=by omega
    subst this
    simp only [Zc,h2 hj]
    show some e=_
    rw [if_pos (List.all_eq_true.2 fun x hx=>hj x (List.mem_range.1 hx))]
  | succ k ih=>
   intro i N hi hk hj
   cases N with
   | zero=>omega
   | succ N=>
    simp only [Zc,h1 i (by omega) hj]
    by_cases hc:c i=true
    ·rw [if_pos hc]
     exact ih (i+1) N (by omega) (by omega) (fun j hj'=>by
      rcases Nat.lt_or_ge j i with h | h
      ·exact hj j h
      ·have:j=i:=by omega
       rw [this]; exact hc)
    ·rw [if_neg hc]
     show some r=_
     rw [if_neg fun hall=>hc (List.all_eq_true.1 hall i (List.mem_range.2 (by omega)))]
 exact key n 0 NN (by omega) hN (fun j hj=>by omega)
theorem Zp1 {α:Type} (xs:List α) (p:α→Bool) (c:Nat→Bool) (h:∀ i (hi:i<xs.length),c i=p xs[i]):(List.range xs.length).all c=xs.all p:=by
 rw [Bool.eq_iff_iff,List.all_eq_true,List.all_eq_true]
 constructor
 ·intro H x hx
  obtain ⟨i,hi,rfl⟩:=List.getElem_of_mem hx
  rw [← h i hi]; exact H i (List.mem_range.2 hi)
 ·intro H i hi
  have hi':=List.mem_range.1 hi
  rw [h i hi']; exact H _ (List.getElem_mem hi')
theorem ZfX {α ο:Type} {xs:List α} {body:Int→Option (Int ⊕ ο)} {p:α→Bool} {r e:ο} (h1:∀ i (hi:i<xs.length),body (i:Int)=some (if p xs[i]=true then .inr r else .inl ((i+1:Nat):Int))) (h2:body (xs.length:Int)=some (.inr e)) (hN:xs.length<NN):
 Zc body NN 0=some (if xs.any p=true then r else e):=by
 rw [Zfx (n:=xs.length) (c:=fun i=>(xs[i]?.map fun x=>!p x).getD true) (r:=r) (e:=e) (fun i hi _=>?_) (fun _=>h2) hN,Zp1 xs (fun x=>!p x) _ (fun i hi=>by simp [hi])]
 ·rw [List.all_eq_not_any_not]
  cases hb:xs.any p with
  | true=>simp [hb]
  | false=>simp [hb]
 ·rw [h1 i hi]
  simp only [List.getElem?_eq_getElem hi,Option.map_some,Option.getD_some]
  cases p xs[i] <;> rfl
attribute [go_sem] Tryz.underlying2
@[go_sem] theorem tc2:Tryz.prog.cellsOf 2=1:=by kernel_rfl
@[go_sem] theorem tb2:Tryz.prog.bytesOf 2=8:=by kernel_rfl
@[go_sem] theorem tz2:pz Tryz.prog 2=some [.v (.int .i64 0)]:=by kernel_rfl
attribute [go_sem] Tryz.underlying3
@[go_sem] theorem tc3:Tryz.prog.cellsOf 3=1:=by kernel_rfl
@[go_sem] theorem tb3:Tryz.prog.bytesOf 3=8:=by kernel_rfl
@[go_sem] theorem tz3:pz Tryz.prog 3=some [.v (.int .i64 0)]:=by kernel_rfl
attribute [go_sem] Tryz.underlying4
@[go_sem] theorem tc4:Tryz.prog.cellsOf 4=1:=by kernel_rfl
@[go_sem] theorem tb4:Tryz.prog.bytesOf 4=1:=by kernel_rfl
@[go_sem] theorem tz4:pz Tryz.prog 4=some [.v (.bool false)]:=by kernel_rfl
attribute [go_sem] Tryz.underlying5
@[go_sem] theorem tc5:Tryz.prog.cellsOf 5=1:=by kernel_rfl
@[go_sem] theorem tb5:Tryz.prog.bytesOf 5=1:=by kernel_rfl
@[go_sem] theorem tz5:pz Tryz.prog 5=some [.v (.int .u8 0)]:=by kernel_rfl
attribute [go_sem] Tryz.underlying9
@[go_sem] theorem tc9:Tryz.prog.cellsOf 9=1:=by kernel_rfl
@[go_sem] theorem tb9:Tryz.prog.bytesOf 9=16:=by kernel_rfl
@[go_sem] theorem tz9:pz Tryz.prog 9=some [.v (.string ⟨#[]⟩)]:=by kernel_rfl
attribute [go_sem] Tryz.underlying12
@[go_sem] theorem tc12:Tryz.prog.cellsOf 12=1:=by kernel_rfl
@[go_sem] theorem tb12:Tryz.prog.bytesOf 12=8:=by kernel_rfl
@[go_sem] theorem tz12:pz Tryz.prog 12=some [.v (.int .u64 0)]:=by kernel_rfl
attribute [go_sem] Tryz.underlying21
@[go_sem] theorem tc21:Tryz.prog.cellsOf 21=1:=by kernel_rfl
@[go_sem] theorem tb21:Tryz.prog.bytesOf 21=4:=by kernel_rfl
@[go_sem] theorem tz21:pz Tryz.prog 21=some [.v (.int .i32 0)]:=by kernel_rfl
attribute [go_sem] Tryz.underlying22
@[go_sem] theorem tc22:Tryz.prog.cellsOf 22=1:=by kernel_rfl
@[go_sem] theorem tb22:Tryz.prog.bytesOf 22=24:=by kernel_rfl
@[go_sem] theorem tz22:pz Tryz.prog 22=some [.v (.slice none 0 0)]:=by kernel_rfl
@[go_sem] theorem tk22:Zd6 Tryz.prog 22=6:=by kernel_rfl
attribute [go_sem] Tryz.underlying23
@[go_sem] theorem tc23:Tryz.prog.cellsOf 23=1:=by kernel_rfl
@[go_sem] theorem tb23:Tryz.prog.bytesOf 23=24:=by kernel_rfl
@[go_sem] theorem tz23:pz Tryz.prog 23=some [.v (.slice none 0 0)]:=by kernel_rfl
@[go_sem] theorem tk23:Zd6 Tryz.prog 23=1:=by kernel_rfl
attribute [go_sem] Tryz.underlying24
@[go_sem] theorem tc24:Tryz.prog.cellsOf 24=3:=by kernel_rfl
@[go_sem] theorem tb24:Tryz.prog.bytesOf 24=56:=by kernel_rfl
@[go_sem] theorem tz24:pz Tryz.prog 24=some [.v (.slice none 0 0),.v (.slice none 0 0),.v (.int .i64 0)]:=by kernel_rfl
@[go_sem] theorem te24:Tryz.prog.eqGuardType Tryz.prog.depth 24=false:=by kernel_rfl
@[go_sem] theorem ts24:Tryz.prog.stoodInHeld 24=false:=by kernel_rfl
attribute [go_sem] Tryz.underlying25
@[go_sem] theorem tc25:Tryz.prog.cellsOf 25=3:=by kernel_rfl
@[go_sem] theorem tb25:Tryz.prog.bytesOf 25=56:=by kernel_rfl
@[go_sem] theorem tz25:pz Tryz.prog 25=some [.v (.slice none 0 0),.v (.slice none 0 0),.v (.int .i64 0)]:=by kernel_rfl
@[go_sem] theorem te25:Tryz.prog.eqGuardType Tryz.prog.depth 25=false:=by kernel_rfl
@[go_sem] theorem ts25:Tryz.prog.stoodInHeld 25=false:=by kernel_rfl
attribute [go_sem] Tryz.underlying26
@[go_sem] theorem tc26:Tryz.prog.cellsOf 26=1:=by kernel_rfl
@[go_sem] theorem tb26:Tryz.prog.bytesOf 26=24:=by kernel_rfl
@[go_sem] theorem tz26:pz Tryz.prog 26=some [.v (.slice none 0 0)]:=by kernel_rfl
@[go_sem] theorem tk26:Zd6 Tryz.prog 26=2:=by kernel_rfl
attribute [go_sem] Tryz.underlying27
@[go_sem] theorem tc27:Tryz.prog.cellsOf 27=1:=by kernel_rfl
@[go_sem] theorem tb27:Tryz.prog.bytesOf 27=24:=by kernel_rfl
@[go_sem] theorem tz27:pz Tryz.prog 27=some [.v (.slice none 0 0)]:=by kernel_rfl
@[go_sem] theorem tk27:Zd6 Tryz.prog 27=4:=by kernel_rfl
attribute [go_sem] Tryz.underlying31
@[go_sem] theorem tc31:Tryz.prog.cellsOf 31=1:=by kernel_rfl
@[go_sem] theorem tb31:Tryz.prog.bytesOf 31=24:=by kernel_rfl
@[go_sem] theorem tz31:pz Tryz.prog 31=some [.v (.slice none 0 0)]:=by kernel_rfl
@[go_sem] theorem tk31:Zd6 Tryz.prog 31=6:=by kernel_rfl
attribute [go_sem] Tryz.underlying32
@[go_sem] theorem tc32:Tryz.prog.cellsOf 32=3:=by kernel_rfl
@[go_sem] theorem tb32:Tryz.prog.bytesOf 32=56:=by kernel_rfl
@[go_sem] theorem tz32:pz Tryz.prog 32=some [.v (.slice none 0 0),.v (.slice none 0 0),.v (.int .i64 0)]:=by kernel_rfl
@[go_sem] theorem te32:Tryz.prog.eqGuardType Tryz.prog.depth 32=false:=by kernel_rfl
@[go_sem] theorem ts32:Tryz.prog.stoodInHeld 32=false:=by kernel_rfl
attribute [go_sem] Tryz.underlying33
@[go_sem] theorem tc33:Tryz.prog.cellsOf 33=3:=by kernel_rfl
@[go_sem] theorem tb33:Tryz.prog.bytesOf 33=56:=by kernel_rfl
@[go_sem] theorem tz33:pz Tryz.prog 33=some [.v (.slice none 0 0),.v (.slice none 0 0),.v (.int .i64 0)]:=by kernel_rfl
@[go_sem] theorem te33:Tryz.prog.eqGuardType Tryz.prog.depth 33=false:=by kernel_rfl
@[go_sem] theorem ts33:Tryz.prog.stoodInHeld 33=false:=by kernel_rfl
attribute [go_sem] Tryz.underlying34
@[go_sem] theorem tc34:Tryz.prog.cellsOf 34=1:=by kernel_rfl
@[go_sem] theorem tb34:Tryz.prog.bytesOf 34=24:=by kernel_rfl
@[go_sem] theorem tz34:pz Tryz.prog 34=some [.v (.slice none 0 0)]:=by kernel_rfl
@[go_sem] theorem tk34:Zd6 Tryz.prog 34=11:=by kernel_rfl
attribute [go_sem] Tryz.underlying35
@[go_sem] theorem tc35:Tryz.prog.cellsOf 35=1:=by kernel_rfl
@[go_sem] theorem tb35:Tryz.prog.bytesOf 35=24:=by kernel_rfl
@[go_sem] theorem tz35:pz Tryz.prog 35=some [.v (.slice none 0 0)]:=by kernel_rfl
@[go_sem] theorem tk35:Zd6 Tryz.prog 35=4:=by kernel_rfl
attribute [go_sem] Tryz.underlying36
@[go_sem] theorem tc36:Tryz.prog.cellsOf 36=1:=by kernel_rfl
@[go_sem] theorem tb36:Tryz.prog.bytesOf 36=24:=by kernel_rfl
@[go_sem] theorem tz36:pz Tryz.prog 36=some [.v (.slice none 0 0)]:=by kernel_rfl
@[go_sem] theorem tk36:Zd6 Tryz.prog 36=2:=by kernel_rfl
attribute [go_sem] Tryz.underlying37
@[go_sem] theorem tc37:Tryz.prog.cellsOf 37=1:=by kernel_rfl
@[go_sem] theorem tb37:Tryz.prog.bytesOf 37=24:=by kernel_rfl
@[go_sem] theorem tz37:pz Tryz.prog 37=some [.v (.slice none 0 0)]:=by kernel_rfl
@[go_sem] theorem tk37:Zd6 Tryz.prog 37=6:=by kernel_rfl
attribute [go_sem] Tryz.underlying38
@[go_sem] theorem tc38:Tryz.prog.cellsOf 38=10:=by kernel_rfl
@[go_sem] theorem tb38:Tryz.prog.bytesOf 38=192:=by kernel_rfl
@[go_sem] theorem tz38:pz Tryz.prog 38=some [.v (.slice none 0 0),.v (.slice none 0 0),.v (.int .i64 0),.v (.slice none 0 0),.v (.slice none 0 0),.v (.slice none 0 0),.v (.int .i64 0),.v (.slice none 0 0),.v (.slice none 0 0),.v (.int .i64 0)]:=by kernel_rfl
@[go_sem] theorem te38:Tryz.prog.eqGuardType Tryz.prog.depth 38=false:=by kernel_rfl
@[go_sem] theorem ts38:Tryz.prog.stoodInHeld 38=false:=by kernel_rfl
attribute [go_sem] Tryz.underlying39
@[go_sem] theorem tc39:Tryz.prog.cellsOf 39=10:=by kernel_rfl
@[go_sem] theorem tb39:Tryz.prog.bytesOf 39=192:=by kernel_rfl
@[go_sem] theorem tz39:pz Tryz.prog 39=some [.v (.slice none 0 0),.v (.slice none 0 0),.v (.int .i64 0),.v (.slice none 0 0),.v (.slice none 0 0),.v (.slice none 0 0),.v (.int .i64 0),.v (.slice none 0 0),.v (.slice none 0 0),.v (.int .i64 0)]:=by kernel_rfl
@[go_sem] theorem te39:Tryz.prog.eqGuardType Tryz.prog.depth 39=false:=by kernel_rfl
@[go_sem] theorem ts39:Tryz.prog.stoodInHeld 39=false:=by kernel_rfl
attribute [go_sem] Tryz.underlying40
@[go_sem] theorem tc40:Tryz.prog.cellsOf 40=1:=by kernel_rfl
@[go_sem] theorem tb40:Tryz.prog.bytesOf 40=24:=by kernel_rfl
@[go_sem] theorem tz40:pz Tryz.prog 40=some [.v (.slice none 0 0)]:=by kernel_rfl
@[go_sem] theorem tk40:Zd6 Tryz.prog 40=2:=by kernel_rfl
attribute [go_sem] Tryz.underlying41
@[go_sem] theorem tc41:Tryz.prog.cellsOf 41=1:=by kernel_rfl
@[go_sem] theorem tb41:Tryz.prog.bytesOf 41=24:=by kernel_rfl
@[go_sem] theorem tz41:pz Tryz.prog 41=some [.v (.slice none 0 0)]:=by kernel_rfl
@[go_sem] theorem tk41:Zd6 Tryz.prog 41=4:=by kernel_rfl
attribute [go_sem] Tryz.underlying42
@[go_sem] theorem tc42:Tryz.prog.cellsOf 42=1:=by kernel_rfl
@[go_sem] theorem tb42:Tryz.prog.bytesOf 42=24:=by kernel_rfl
@[go_sem] theorem tz42:pz Tryz.prog 42=some [.v (.slice none 0 0)]:=by kernel_rfl
@[go_sem] theorem tk42:Zd6 Tryz.prog 42=7:=by kernel_rfl
attribute [go_sem] Tryz.underlying43
@[go_sem] theorem tc43:Tryz.prog.cellsOf 43=1:=by kernel_rfl
@[go_sem] theorem tb43:Tryz.prog.bytesOf 43=24:=by kernel_rfl
@[go_sem] theorem tz43:pz Tryz.prog 43=some [.v (.slice none 0 0)]:=by kernel_rfl
@[go_sem] theorem tk43:Zd6 Tryz.prog 43=4:=by kernel_rfl
attribute [go_sem] Tryz.underlying44
@[go_sem] theorem tc44:Tryz.prog.cellsOf 44=1:=by kernel_rfl
@[go_sem] theorem tb44:Tryz.prog.bytesOf 44=24:=by kernel_rfl
@[go_sem] theorem tz44:pz Tryz.prog 44=some [.v (.slice none 0 0)]:=by kernel_rfl
@[go_sem] theorem tk44:Zd6 Tryz.prog 44=13:=by kernel_rfl
attribute [go_sem] Tryz.underlying45
@[go_sem] theorem tc45:Tryz.prog.cellsOf 45=16:=by kernel_rfl
@[go_sem] theorem tb45:Tryz.prog.bytesOf 45=336:=by kernel_rfl
@[go_sem] theorem tz45:pz Tryz.prog 45=some [.v (.slice none 0 0),.v (.slice none 0 0),.v (.int .i64 0),.v (.slice none 0 0),.v (.slice none 0 0),.v (.slice none 0 0),.v (.int .i64 0),.v (.slice none 0 0),.v (.slice none 0 0),.v (.int .i64 0),.v (.slice none 0 0),.v (.slice none 0 0),.v (.slice none 0 0),.v (.slice none 0 0),.v (.slice none 0 0),.v (.slice none 0 0)]:=by kernel_rfl
@[go_sem] theorem te45:Tryz.prog.eqGuardType Tryz.prog.depth 45=false:=by kernel_rfl
@[go_sem] theorem ts45:Tryz.prog.stoodInHeld 45=false:=by kernel_rfl
attribute [go_sem] Tryz.underlying46
@[go_sem] theorem tc46:Tryz.prog.cellsOf 46=16:=by kernel_rfl
@[go_sem] theorem tb46:Tryz.prog.bytesOf 46=336:=by kernel_rfl
@[go_sem] theorem tz46:pz Tryz.prog 46=some [.v (.slice none 0 0),.v (.slice none 0 0),.v (.int .i64 0),.v (.slice none 0 0),.v (.slice none 0 0),.v (.slice none 0 0),.v (.int .i64 0),.v (.slice none 0 0),.v (.slice none 0 0),.v (.int .i64 0),.v (.slice none 0 0),.v (.slice none 0 0),.v (.slice none 0 0),.v (.slice none 0 0),.v (.slice none 0 0),.v (.slice none 0 0)]:=by kernel_rfl
@[go_sem] theorem te46:Tryz.prog.eqGuardType Tryz.prog.depth 46=false:=by kernel_rfl
@[go_sem] theorem ts46:Tryz.prog.stoodInHeld 46=false:=by kernel_rfl
attribute [go_sem] Tryz.underlying66
@[go_sem] theorem tc66:Tryz.prog.cellsOf 66=2:=by kernel_rfl
@[go_sem] theorem tb66:Tryz.prog.bytesOf 66=32:=by kernel_rfl
@[go_sem] theorem tz66:pz Tryz.prog 66=some [.v (.string ⟨#[]⟩),.v (.string ⟨#[]⟩)]:=by kernel_rfl
@[go_sem] theorem te66:Tryz.prog.eqGuardType Tryz.prog.depth 66=false:=by kernel_rfl
@[go_sem] theorem ts66:Tryz.prog.stoodInHeld 66=false:=by kernel_rfl
attribute [go_sem] Tryz.underlying67
@[go_sem] theorem tc67:Tryz.prog.cellsOf 67=2:=by kernel_rfl
@[go_sem] theorem tb67:Tryz.prog.bytesOf 67=32:=by kernel_rfl
@[go_sem] theorem tz67:pz Tryz.prog 67=some [.v (.string ⟨#[]⟩),.v (.string ⟨#[]⟩)]:=by kernel_rfl
@[go_sem] theorem te67:Tryz.prog.eqGuardType Tryz.prog.depth 67=false:=by kernel_rfl
@[go_sem] theorem ts67:Tryz.prog.stoodInHeld 67=false:=by kernel_rfl
attribute [go_sem] Tryz.underlying73
@[go_sem] theorem tc73:Tryz.prog.cellsOf 73=2:=by kernel_rfl
@[go_sem] theorem tb73:Tryz.prog.bytesOf 73=32:=by kernel_rfl
@[go_sem] theorem tz73:pz Tryz.prog 73=some [.v (.string ⟨#[]⟩),.v (.string ⟨#[]⟩)]:=by kernel_rfl
@[go_sem] theorem te73:Tryz.prog.eqGuardType Tryz.prog.depth 73=false:=by kernel_rfl
@[go_sem] theorem ts73:Tryz.prog.stoodInHeld 73=false:=by kernel_rfl
attribute [go_sem] Tryz.underlying75
@[go_sem] theorem tc75:Tryz.prog.cellsOf 75=4:=by kernel_rfl
@[go_sem] theorem tb75:Tryz.prog.bytesOf 75=32:=by kernel_rfl
@[go_sem] theorem tz75:pz Tryz.prog 75=some [.v (.int .i64 0),.v (.int .i64 0),.v (.int .i64 0),.v (.int .i64 0)]:=by kernel_rfl
@[go_sem] theorem te75:Tryz.prog.eqGuardType Tryz.prog.depth 75=false:=by kernel_rfl
@[go_sem] theorem ts75:Tryz.prog.stoodInHeld 75=false:=by kernel_rfl
attribute [go_sem] Tryz.underlying76
@[go_sem] theorem tc76:Tryz.prog.cellsOf 76=4:=by kernel_rfl
@[go_sem] theorem tb76:Tryz.prog.bytesOf 76=32:=by kernel_rfl
@[go_sem] theorem tz76:pz Tryz.prog 76=some [.v (.int .i64 0),.v (.int .i64 0),.v (.int .i64 0),.v (.int .i64 0)]:=by kernel_rfl
@[go_sem] theorem te76:Tryz.prog.eqGuardType Tryz.prog.depth 76=false:=by kernel_rfl
@[go_sem] theorem ts76:Tryz.prog.stoodInHeld 76=false:=by kernel_rfl
attribute [go_sem] Tryz.underlying78
@[go_sem] theorem tc78:Tryz.prog.cellsOf 78=4:=by kernel_rfl
@[go_sem] theorem tb78:Tryz.prog.bytesOf 78=32:=by kernel_rfl
@[go_sem] theorem tz78:pz Tryz.prog 78=some [.v (.int .i64 0),.v (.int .i64 0),.v (.int .i64 0),.v (.int .i64 0)]:=by kernel_rfl
@[go_sem] theorem te78:Tryz.prog.eqGuardType Tryz.prog.depth 78=false:=by kernel_rfl
@[go_sem] theorem ts78:Tryz.prog.stoodInHeld 78=false:=by kernel_rfl
attribute [go_sem] Tryz.underlying93
@[go_sem] theorem tc93:Tryz.prog.cellsOf 93=6:=by kernel_rfl
@[go_sem] theorem tb93:Tryz.prog.bytesOf 93=64:=by kernel_rfl
@[go_sem] theorem tz93:pz Tryz.prog 93=some [.v (.string ⟨#[]⟩),.v (.string ⟨#[]⟩),.v (.int .i64 0),.v (.int .i64 0),.v (.int .i64 0),.v (.int .i64 0)]:=by kernel_rfl
@[go_sem] theorem te93:Tryz.prog.eqGuardType Tryz.prog.depth 93=false:=by kernel_rfl
@[go_sem] theorem ts93:Tryz.prog.stoodInHeld 93=false:=by kernel_rfl
attribute [go_sem] Tryz.underlying94
@[go_sem] theorem tc94:Tryz.prog.cellsOf 94=6:=by kernel_rfl
@[go_sem] theorem tb94:Tryz.prog.bytesOf 94=64:=by kernel_rfl
@[go_sem] theorem tz94:pz Tryz.prog 94=some [.v (.string ⟨#[]⟩),.v (.string ⟨#[]⟩),.v (.int .i64 0),.v (.int .i64 0),.v (.int .i64 0),.v (.int .i64 0)]:=by kernel_rfl
@[go_sem] theorem te94:Tryz.prog.eqGuardType Tryz.prog.depth 94=false:=by kernel_rfl
@[go_sem] theorem ts94:Tryz.prog.stoodInHeld 94=false:=by kernel_rfl
attribute [go_sem] Tryz.underlying98
@[go_sem] theorem tc98:Tryz.prog.cellsOf 98=3:=by kernel_rfl
@[go_sem] theorem tb98:Tryz.prog.bytesOf 98=32:=by kernel_rfl
@[go_sem] theorem tz98:pz Tryz.prog 98=some [.v (.int .i64 0),.v (.int .i64 0),.v (.string ⟨#[]⟩)]:=by kernel_rfl
@[go_sem] theorem te98:Tryz.prog.eqGuardType Tryz.prog.depth 98=false:=by kernel_rfl
@[go_sem] theorem ts98:Tryz.prog.stoodInHeld 98=false:=by kernel_rfl
attribute [go_sem] Tryz.underlying99
@[go_sem] theorem tc99:Tryz.prog.cellsOf 99=3:=by kernel_rfl
@[go_sem] theorem tb99:Tryz.prog.bytesOf 99=32:=by kernel_rfl
@[go_sem] theorem tz99:pz Tryz.prog 99=some [.v (.int .i64 0),.v (.int .i64 0),.v (.string ⟨#[]⟩)]:=by kernel_rfl
@[go_sem] theorem te99:Tryz.prog.eqGuardType Tryz.prog.depth 99=false:=by kernel_rfl
@[go_sem] theorem ts99:Tryz.prog.stoodInHeld 99=false:=by kernel_rfl
attribute [go_sem] Tryz.underlying100
@[go_sem] theorem Zw3:Tryz.prog.cellsOf 100=7:=by kernel_rfl
@[go_sem] theorem ZwJ:Tryz.prog.bytesOf 100=88:=by kernel_rfl
@[go_sem] theorem ZxH:pz Tryz.prog 100=some [.v (.int .i64 0),.v (.int .i64 0),.v (.string ⟨#[]⟩),.v (.string ⟨#[]⟩),.v (.int .i64 0),.v (.slice none 0 0),.v (.int .i64 0)]:=by kernel_rfl
@[go_sem] theorem Zxj:Tryz.prog.eqGuardType Tryz.prog.depth 100=false:=by kernel_rfl
@[go_sem] theorem Zxw:Tryz.prog.stoodInHeld 100=false:=by kernel_rfl
attribute [go_sem] Tryz.underlying101
@[go_sem] theorem Zw4:Tryz.prog.cellsOf 101=7:=by kernel_rfl
@[go_sem] theorem ZwK:Tryz.prog.bytesOf 101=88:=by kernel_rfl
@[go_sem] theorem ZxI:pz Tryz.prog 101=some [.v (.int .i64 0),.v (.int .i64 0),.v (.string ⟨#[]⟩),.v (.string ⟨#[]⟩),.v (.int .i64 0),.v (.slice none 0 0),.v (.int .i64 0)]:=by kernel_rfl
@[go_sem] theorem Zxk:Tryz.prog.eqGuardType Tryz.prog.depth 101=false:=by kernel_rfl
@[go_sem] theorem Zxx:Tryz.prog.stoodInHeld 101=false:=by kernel_rfl
attribute [go_sem] Tryz.underlying103
@[go_sem] theorem Zw5:Tryz.prog.cellsOf 103=2:=by kernel_rfl
@[go_sem] theorem ZwL:Tryz.prog.bytesOf 103=16:=by kernel_rfl
@[go_sem] theorem ZxJ:pz Tryz.prog 103=some [.v (.int .i64 0),.v (.int .i64 0)]:=by kernel_rfl
@[go_sem] theorem Zxl:Tryz.prog.eqGuardType Tryz.prog.depth 103=false:=by kernel_rfl
@[go_sem] theorem Zxy:Tryz.prog.stoodInHeld 103=false:=by kernel_rfl
attribute [go_sem] Tryz.underlying104
@[go_sem] theorem Ztv:Tryz.prog.cellsOf 104=2:=by kernel_rfl
@[go_sem] theorem ZwM:Tryz.prog.bytesOf 104=16:=by kernel_rfl
@[go_sem] theorem ZxK:pz Tryz.prog 104=some [.v (.int .i64 0),.v (.int .i64 0)]:=by kernel_rfl
@[go_sem] theorem Zut:Tryz.prog.eqGuardType Tryz.prog.depth 104=false:=by kernel_rfl
@[go_sem] theorem Zty:Tryz.prog.stoodInHeld 104=false:=by kernel_rfl
attribute [go_sem] Tryz.underlying105
@[go_sem] theorem Zw6:Tryz.prog.cellsOf 105=13:=by kernel_rfl
@[go_sem] theorem ZwN:Tryz.prog.bytesOf 105=136:=by kernel_rfl
@[go_sem] theorem ZxL:pz Tryz.prog 105=some [.v (.int .i64 0),.v (.int .i64 0),.v (.int .i64 0),.v (.string ⟨#[]⟩),.v (.string ⟨#[]⟩),.v (.int .i64 0),.v (.slice none 0 0),.v (.int .i64 0),.v (.int .i64 0),.v (.int .i64 0),.v (.int .i64 0),.v (.int .i64 0),.v (.int .i64 0)]:=by kernel_rfl
@[go_sem] theorem Zxm:Tryz.prog.eqGuardType Tryz.prog.depth 105=false:=by kernel_rfl
@[go_sem] theorem Zxz:Tryz.prog.stoodInHeld 105=false:=by kernel_rfl
attribute [go_sem] Tryz.underlying106
@[go_sem] theorem Zw7:Tryz.prog.cellsOf 106=13:=by kernel_rfl
@[go_sem] theorem ZwO:Tryz.prog.bytesOf 106=136:=by kernel_rfl
@[go_sem] theorem ZxM:pz Tryz.prog 106=some [.v (.int .i64 0),.v (.int .i64 0),.v (.int .i64 0),.v (.string ⟨#[]⟩),.v (.string ⟨#[]⟩),.v (.int .i64 0),.v (.slice none 0 0),.v (.int .i64 0),.v (.int .i64 0),.v (.int .i64 0),.v (.int .i64 0),.v (.int .i64 0),.v (.int .i64 0)]:=by kernel_rfl
@[go_sem] theorem Zxn:Tryz.prog.eqGuardType Tryz.prog.depth 106=false:=by kernel_rfl
@[go_sem] theorem ZxA:Tryz.prog.stoodInHeld 106=false:=by kernel_rfl
attribute [go_sem] Tryz.underlying112
@[go_sem] theorem Zw8:Tryz.prog.cellsOf 112=4:=by kernel_rfl
@[go_sem] theorem ZwP:Tryz.prog.bytesOf 112=32:=by kernel_rfl
@[go_sem] theorem ZxN:pz Tryz.prog 112=some [.v (.int .i64 0),.v (.int .i64 0),.v (.int .i64 0),.v (.int .i64 0)]:=by kernel_rfl
@[go_sem] theorem Zxo:Tryz.prog.eqGuardType Tryz.prog.depth 112=false:=by kernel_rfl
@[go_sem] theorem ZxB:Tryz.prog.stoodInHeld 112=false:=by kernel_rfl
attribute [go_sem] Tryz.underlying113
@[go_sem] theorem Zw9:Tryz.prog.cellsOf 113=4:=by kernel_rfl
@[go_sem] theorem ZwQ:Tryz.prog.bytesOf 113=32:=by kernel_rfl
@[go_sem] theorem ZxO:pz Tryz.prog 113=some [.v (.int .i64 0),.v (.int .i64 0),.v (.int .i64 0),.v (.int .i64 0)]:=by kernel_rfl
@[go_sem] theorem Zxp:Tryz.prog.eqGuardType Tryz.prog.depth 113=false:=by kernel_rfl
@[go_sem] theorem ZxC:Tryz.prog.stoodInHeld 113=false:=by kernel_rfl
attribute [go_sem] Tryz.underlying115
@[go_sem] theorem Zu9:Tryz.prog.cellsOf 115=6:=by kernel_rfl
@[go_sem] theorem ZwR:Tryz.prog.bytesOf 115=64:=by kernel_rfl
@[go_sem] theorem ZxP:pz Tryz.prog 115=some [.v (.string ⟨#[]⟩),.v (.string ⟨#[]⟩),.v (.int .i64 0),.v (.int .i64 0),.v (.int .i64 0),.v (.int .i64 0)]:=by kernel_rfl
@[go_sem] theorem Zuu:Tryz.prog.eqGuardType Tryz.prog.depth 115=false:=by kernel_rfl
@[go_sem] theorem Zvc:Tryz.prog.stoodInHeld 115=false:=by kernel_rfl
attribute [go_sem] Tryz.underlying119
@[go_sem] theorem Zxa:Tryz.prog.cellsOf 119=11:=by kernel_rfl
@[go_sem] theorem ZwS:Tryz.prog.bytesOf 119=128:=by kernel_rfl
@[go_sem] theorem ZxQ:pz Tryz.prog 119=some [.v (.string ⟨#[]⟩),.v (.string ⟨#[]⟩),.v (.int .i64 0),.v (.int .i64 0),.v (.int .i64 0),.v (.int .i64 0),.v (.slice none 0 0),.v (.int .i64 0),.v (.int .i64 0),.v (.string ⟨#[]⟩),.v (.int .i64 0)]:=by kernel_rfl
@[go_sem] theorem Zxq:Tryz.prog.eqGuardType Tryz.prog.depth 119=false:=by kernel_rfl
@[go_sem] theorem ZxD:Tryz.prog.stoodInHeld 119=false:=by kernel_rfl
attribute [go_sem] Tryz.underlying120
@[go_sem] theorem Zxb:Tryz.prog.cellsOf 120=11:=by kernel_rfl
@[go_sem] theorem ZwT:Tryz.prog.bytesOf 120=128:=by kernel_rfl
@[go_sem] theorem ZxR:pz Tryz.prog 120=some [.v (.string ⟨#[]⟩),.v (.string ⟨#[]⟩),.v (.int .i64 0),.v (.int .i64 0),.v (.int .i64 0),.v (.int .i64 0),.v (.slice none 0 0),.v (.int .i64 0),.v (.int .i64 0),.v (.string ⟨#[]⟩),.v (.int .i64 0)]:=by kernel_rfl
@[go_sem] theorem Zxr:Tryz.prog.eqGuardType Tryz.prog.depth 120=false:=by kernel_rfl
@[go_sem] theorem ZxE:Tryz.prog.stoodInHeld 120=false:=by kernel_rfl
attribute [go_sem] Tryz.underlying132
@[go_sem] theorem Zxc:Tryz.prog.cellsOf 132=1:=by kernel_rfl
@[go_sem] theorem ZwU:Tryz.prog.bytesOf 132=24:=by kernel_rfl
@[go_sem] theorem ZxS:pz Tryz.prog 132=some [.v (.slice none 0 0)]:=by kernel_rfl
@[go_sem] theorem Zxu:Zd6 Tryz.prog 132=1:=by kernel_rfl
attribute [go_sem] Tryz.underlying143
@[go_sem] theorem Zxd:Tryz.prog.cellsOf 143=6:=by kernel_rfl
@[go_sem] theorem ZwV:Tryz.prog.bytesOf 143=56:=by kernel_rfl
@[go_sem] theorem ZxT:pz Tryz.prog 143=some [.v (.int .i64 0),.v (.int .i64 0),.v (.int .i64 0),.v (.string ⟨#[]⟩),.v (.int .i64 0),.v (.int .i64 0)]:=by kernel_rfl
@[go_sem] theorem Zxs:Tryz.prog.eqGuardType Tryz.prog.depth 143=false:=by kernel_rfl
@[go_sem] theorem ZxF:Tryz.prog.stoodInHeld 143=false:=by kernel_rfl
attribute [go_sem] Tryz.underlying144
@[go_sem] theorem Zva:Tryz.prog.cellsOf 144=6:=by kernel_rfl
@[go_sem] theorem ZwW:Tryz.prog.bytesOf 144=56:=by kernel_rfl
@[go_sem] theorem ZxU:pz Tryz.prog 144=some [.v (.int .i64 0),.v (.int .i64 0),.v (.int .i64 0),.v (.string ⟨#[]⟩),.v (.int .i64 0),.v (.int .i64 0)]:=by kernel_rfl
@[go_sem] theorem Zuv:Tryz.prog.eqGuardType Tryz.prog.depth 144=false:=by kernel_rfl
@[go_sem] theorem Zvd:Tryz.prog.stoodInHeld 144=false:=by kernel_rfl
attribute [go_sem] Tryz.underlying150
@[go_sem] theorem Zxe:Tryz.prog.cellsOf 150=1:=by kernel_rfl
@[go_sem] theorem ZwX:Tryz.prog.bytesOf 150=24:=by kernel_rfl
@[go_sem] theorem ZxV:pz Tryz.prog 150=some [.v (.slice none 0 0)]:=by kernel_rfl
@[go_sem] theorem Zxv:Zd6 Tryz.prog 150=1:=by kernel_rfl
attribute [go_sem] Tryz.underlying160
@[go_sem] theorem Zxf:Tryz.prog.cellsOf 160=4:=by kernel_rfl
@[go_sem] theorem ZwY:Tryz.prog.bytesOf 160=32:=by kernel_rfl
@[go_sem] theorem ZxW:pz Tryz.prog 160=some [.v (.int .i64 0),.v (.int .i64 0),.v (.int .i64 0),.v (.int .i64 0)]:=by kernel_rfl
@[go_sem] theorem Zxt:Tryz.prog.eqGuardType Tryz.prog.depth 160=false:=by kernel_rfl
@[go_sem] theorem ZxG:Tryz.prog.stoodInHeld 160=false:=by kernel_rfl
attribute [go_sem] Tryz.underlying161
@[go_sem] theorem Zvb:Tryz.prog.cellsOf 161=4:=by kernel_rfl
@[go_sem] theorem ZwZ:Tryz.prog.bytesOf 161=32:=by kernel_rfl
@[go_sem] theorem ZxX:pz Tryz.prog 161=some [.v (.int .i64 0),.v (.int .i64 0),.v (.int .i64 0),.v (.int .i64 0)]:=by kernel_rfl
@[go_sem] theorem Zuw:Tryz.prog.eqGuardType Tryz.prog.depth 161=false:=by kernel_rfl
@[go_sem] theorem Zve:Tryz.prog.stoodInHeld 161=false:=by kernel_rfl
attribute [go_sem] Tryz.underlying184
@[go_sem] theorem Zxg:Tryz.prog.cellsOf 184=1:=by kernel_rfl
@[go_sem] theorem Zw0:Tryz.prog.bytesOf 184=8:=by kernel_rfl
@[go_sem] theorem ZxY:pz Tryz.prog 184=some [.v (.int .u64 0)]:=by kernel_rfl
attribute [go_sem] Tryz.underlying199
@[go_sem] theorem Zxh:Tryz.prog.cellsOf 199=1:=by kernel_rfl
@[go_sem] theorem Zw1:Tryz.prog.bytesOf 199=4:=by kernel_rfl
@[go_sem] theorem ZxZ:pz Tryz.prog 199=some [.v (.int .u32 0)]:=by kernel_rfl
attribute [go_sem] Tryz.underlying201
@[go_sem] theorem Zxi:Tryz.prog.cellsOf 201=1:=by kernel_rfl
@[go_sem] theorem Zw2:Tryz.prog.bytesOf 201=8:=by kernel_rfl
@[go_sem] theorem Zx0:pz Tryz.prog 201=some [.v (.int .u64 0)]:=by kernel_rfl
@[go_sem] theorem fn3:isFn Tryz.prog 3:=⟨_,Tryz.func3,rfl,by kernel_rfl⟩
@[go_sem] theorem fn4:isFn Tryz.prog 4:=⟨_,Tryz.func4,rfl,by kernel_rfl⟩
@[go_sem] theorem fn5:isFn Tryz.prog 5:=⟨_,Tryz.func5,rfl,by kernel_rfl⟩
@[go_sem] theorem fn6:isFn Tryz.prog 6:=⟨_,Tryz.func6,rfl,by kernel_rfl⟩
@[go_sem] theorem fn7:isFn Tryz.prog 7:=⟨_,Tryz.func7,rfl,by kernel_rfl⟩
@[go_sem] theorem fn8:isFn Tryz.prog 8:=⟨_,Tryz.func8,rfl,by kernel_rfl⟩
@[go_sem] theorem fn9:isFn Tryz.prog 9:=⟨_,Tryz.func9,rfl,by kernel_rfl⟩
@[go_sem] theorem fn10:isFn Tryz.prog 10:=⟨_,Tryz.func10,rfl,by kernel_rfl⟩
@[go_sem] theorem fn11:isFn Tryz.prog 11:=⟨_,Tryz.func11,rfl,by kernel_rfl⟩
@[go_sem] theorem fn12:isFn Tryz.prog 12:=⟨_,Tryz.func12,rfl,by kernel_rfl⟩
@[go_sem] theorem fn13:isFn Tryz.prog 13:=⟨_,Tryz.func13,rfl,by kernel_rfl⟩
@[go_sem] theorem fn14:isFn Tryz.prog 14:=⟨_,Tryz.func14,rfl,by kernel_rfl⟩
@[go_sem] theorem fn15:isFn Tryz.prog 15:=⟨_,Tryz.func15,rfl,by kernel_rfl⟩
@[go_sem] theorem fn16:isFn Tryz.prog 16:=⟨_,Tryz.func16,rfl,by kernel_rfl⟩
@[go_sem] theorem fn17:isFn Tryz.prog 17:=⟨_,Tryz.func17,rfl,by kernel_rfl⟩
@[go_sem] theorem fn18:isFn Tryz.prog 18:=⟨_,Tryz.func18,rfl,by kernel_rfl⟩
@[go_sem] theorem fn19:isFn Tryz.prog 19:=⟨_,Tryz.func19,rfl,by kernel_rfl⟩
@[go_sem] theorem fn20:isFn Tryz.prog 20:=⟨_,Tryz.func20,rfl,by kernel_rfl⟩
@[go_sem] theorem fn21:isFn Tryz.prog 21:=⟨_,Tryz.func21,rfl,by kernel_rfl⟩
@[go_sem] theorem fn22:isFn Tryz.prog 22:=⟨_,Tryz.func22,rfl,by kernel_rfl⟩
@[go_sem] theorem fn23:isFn Tryz.prog 23:=⟨_,Tryz.func23,rfl,by kernel_rfl⟩
@[go_sem] theorem fn24:isFn Tryz.prog 24:=⟨_,Tryz.func24,rfl,by kernel_rfl⟩
@[go_sem] theorem fn25:isFn Tryz.prog 25:=⟨_,Tryz.func25,rfl,by kernel_rfl⟩
@[go_sem] theorem fn26:isFn Tryz.prog 26:=⟨_,Tryz.func26,rfl,by kernel_rfl⟩
@[go_sem] theorem fn27:isFn Tryz.prog 27:=⟨_,Tryz.func27,rfl,by kernel_rfl⟩
@[go_sem] theorem fn28:isFn Tryz.prog 28:=⟨_,Tryz.func28,rfl,by kernel_rfl⟩
@[go_sem] theorem fn29:isFn Tryz.prog 29:=⟨_,Tryz.func29,rfl,by kernel_rfl⟩
@[go_sem] theorem fn30:isFn Tryz.prog 30:=⟨_,Tryz.func30,rfl,by kernel_rfl⟩
@[go_sem] theorem fn31:isFn Tryz.prog 31:=⟨_,Tryz.func31,rfl,by kernel_rfl⟩
@[go_sem] theorem fn32:isFn Tryz.prog 32:=⟨_,Tryz.func32,rfl,by kernel_rfl⟩
@[go_sem] theorem fn33:isFn Tryz.prog 33:=⟨_,Tryz.func33,rfl,by kernel_rfl⟩
@[go_sem] theorem fn34:isFn Tryz.prog 34:=⟨_,Tryz.func34,rfl,by kernel_rfl⟩
@[go_sem] theorem fn35:isFn Tryz.prog 35:=⟨_,Tryz.func35,rfl,by kernel_rfl⟩
@[go_sem] theorem fn36:isFn Tryz.prog 36:=⟨_,Tryz.func36,rfl,by kernel_rfl⟩
@[go_sem] theorem fn37:isFn Tryz.prog 37:=⟨_,Tryz.func37,rfl,by kernel_rfl⟩
@[go_sem] theorem fn38:isFn Tryz.prog 38:=⟨_,Tryz.func38,rfl,by kernel_rfl⟩
@[go_sem] theorem fn39:isFn Tryz.prog 39:=⟨_,Tryz.func39,rfl,by kernel_rfl⟩
@[go_sem] theorem fn40:isFn Tryz.prog 40:=⟨_,Tryz.func40,rfl,by kernel_rfl⟩
@[go_sem] theorem fn41:isFn Tryz.prog 41:=⟨_,Tryz.func41,rfl,by kernel_rfl⟩
@[go_sem] theorem fn42:isFn Tryz.prog 42:=⟨_,Tryz.func42,rfl,by kernel_rfl⟩
@[go_sem] theorem fn43:isFn Tryz.prog 43:=⟨_,Tryz.func43,rfl,by kernel_rfl⟩
@[go_sem] theorem fn44:isFn Tryz.prog 44:=⟨_,Tryz.func44,rfl,by kernel_rfl⟩
@[go_sem] theorem fn45:isFn Tryz.prog 45:=⟨_,Tryz.func45,rfl,by kernel_rfl⟩
@[go_sem] theorem fn46:isFn Tryz.prog 46:=⟨_,Tryz.func46,rfl,by kernel_rfl⟩
@[go_sem] theorem fn47:isFn Tryz.prog 47:=⟨_,Tryz.func47,rfl,by kernel_rfl⟩
@[go_sem] theorem fn48:isFn Tryz.prog 48:=⟨_,Tryz.func48,rfl,by kernel_rfl⟩
@[go_sem] theorem fn49:isFn Tryz.prog 49:=⟨_,Tryz.func49,rfl,by kernel_rfl⟩
@[go_sem] theorem fn50:isFn Tryz.prog 50:=⟨_,Tryz.func50,rfl,by kernel_rfl⟩
@[go_sem] theorem fn51:isFn Tryz.prog 51:=⟨_,Tryz.func51,rfl,by kernel_rfl⟩
@[go_sem] theorem fn52:isFn Tryz.prog 52:=⟨_,Tryz.func52,rfl,by kernel_rfl⟩
@[go_sem] theorem fn53:isFn Tryz.prog 53:=⟨_,Tryz.func53,rfl,by kernel_rfl⟩
@[go_sem] theorem fn54:isFn Tryz.prog 54:=⟨_,Tryz.func54,rfl,by kernel_rfl⟩
@[go_sem] theorem fn55:isFn Tryz.prog 55:=⟨_,Tryz.func55,rfl,by kernel_rfl⟩
@[go_sem] theorem fn56:isFn Tryz.prog 56:=⟨_,Tryz.func56,rfl,by kernel_rfl⟩
@[go_sem] theorem fn57:isFn Tryz.prog 57:=⟨_,Tryz.func57,rfl,by kernel_rfl⟩
@[go_sem] theorem fn58:isFn Tryz.prog 58:=⟨_,Tryz.func58,rfl,by kernel_rfl⟩
@[go_sem] theorem fn59:isFn Tryz.prog 59:=⟨_,Tryz.func59,rfl,by kernel_rfl⟩
@[go_sem] theorem fn60:isFn Tryz.prog 60:=⟨_,Tryz.func60,rfl,by kernel_rfl⟩
@[go_sem] theorem fn61:isFn Tryz.prog 61:=⟨_,Tryz.func61,rfl,by kernel_rfl⟩
@[go_sem] theorem fn62:isFn Tryz.prog 62:=⟨_,Tryz.func62,rfl,by kernel_rfl⟩
@[go_sem] theorem fn63:isFn Tryz.prog 63:=⟨_,Tryz.func63,rfl,by kernel_rfl⟩
@[go_sem] theorem fn64:isFn Tryz.prog 64:=⟨_,Tryz.func64,rfl,by kernel_rfl⟩
@[go_sem] theorem fn65:isFn Tryz.prog 65:=⟨_,Tryz.func65,rfl,by kernel_rfl⟩
@[go_sem] theorem fn66:isFn Tryz.prog 66:=⟨_,Tryz.func66,rfl,by kernel_rfl⟩
@[go_sem] theorem fn67:isFn Tryz.prog 67:=⟨_,Tryz.func67,rfl,by kernel_rfl⟩
@[go_sem] theorem fn68:isFn Tryz.prog 68:=⟨_,Tryz.func68,rfl,by kernel_rfl⟩
@[go_sem] theorem fn69:isFn Tryz.prog 69:=⟨_,Tryz.func69,rfl,by kernel_rfl⟩
@[go_sem] theorem fn70:isFn Tryz.prog 70:=⟨_,Tryz.func70,rfl,by kernel_rfl⟩
@[go_sem] theorem fn71:isFn Tryz.prog 71:=⟨_,Tryz.func71,rfl,by kernel_rfl⟩
@[go_sem] theorem fn72:isFn Tryz.prog 72:=⟨_,Tryz.func72,rfl,by kernel_rfl⟩
@[go_sem] theorem fn73:isFn Tryz.prog 73:=⟨_,Tryz.func73,rfl,by kernel_rfl⟩
@[go_sem] theorem fn74:isFn Tryz.prog 74:=⟨_,Tryz.func74,rfl,by kernel_rfl⟩
@[go_sem] theorem fn75:isFn Tryz.prog 75:=⟨_,Tryz.func75,rfl,by kernel_rfl⟩
@[go_sem] theorem fn76:isFn Tryz.prog 76:=⟨_,Tryz.func76,rfl,by kernel_rfl⟩
@[go_sem] theorem fn77:isFn Tryz.prog 77:=⟨_,Tryz.func77,rfl,by kernel_rfl⟩
@[go_sem] theorem fn78:isFn Tryz.prog 78:=⟨_,Tryz.func78,rfl,by kernel_rfl⟩
@[go_sem] theorem fn79:isFn Tryz.prog 79:=⟨_,Tryz.func79,rfl,by kernel_rfl⟩
@[go_sem] theorem fn80:isFn Tryz.prog 80:=⟨_,Tryz.func80,rfl,by kernel_rfl⟩
@[go_sem] theorem fn81:isFn Tryz.prog 81:=⟨_,Tryz.func81,rfl,by kernel_rfl⟩
@[go_sem] theorem fn82:isFn Tryz.prog 82:=⟨_,Tryz.func82,rfl,by kernel_rfl⟩
@[go_sem] theorem fn83:isFn Tryz.prog 83:=⟨_,Tryz.func83,rfl,by kernel_rfl⟩
@[go_sem] theorem fn84:isFn Tryz.prog 84:=⟨_,Tryz.func84,rfl,by kernel_rfl⟩
@[go_sem] theorem fn85:isFn Tryz.prog 85:=⟨_,Tryz.func85,rfl,by kernel_rfl⟩
@[go_sem] theorem fn86:isFn Tryz.prog 86:=⟨_,Tryz.func86,rfl,by kernel_rfl⟩
@[go_sem] theorem fn87:isFn Tryz.prog 87:=⟨_,Tryz.func87,rfl,by kernel_rfl⟩
@[go_sem] theorem fn88:isFn Tryz.prog 88:=⟨_,Tryz.func88,rfl,by kernel_rfl⟩
@[go_sem] theorem fn89:isFn Tryz.prog 89:=⟨_,Tryz.func89,rfl,by kernel_rfl⟩
@[go_sem] theorem fn90:isFn Tryz.prog 90:=⟨_,Tryz.func90,rfl,by kernel_rfl⟩
@[go_sem] theorem fn91:isFn Tryz.prog 91:=⟨_,Tryz.func91,rfl,by kernel_rfl⟩
@[go_sem] theorem fn92:isFn Tryz.prog 92:=⟨_,Tryz.func92,rfl,by kernel_rfl⟩
@[go_sem] theorem fn93:isFn Tryz.prog 93:=⟨_,Tryz.func93,rfl,by kernel_rfl⟩
@[go_sem] theorem fn94:isFn Tryz.prog 94:=⟨_,Tryz.func94,rfl,by kernel_rfl⟩
@[go_sem] theorem fn95:isFn Tryz.prog 95:=⟨_,Tryz.func95,rfl,by kernel_rfl⟩
@[go_sem] theorem fn96:isFn Tryz.prog 96:=⟨_,Tryz.func96,rfl,by kernel_rfl⟩
@[go_sem] theorem fn97:isFn Tryz.prog 97:=⟨_,Tryz.func97,rfl,by kernel_rfl⟩
@[go_sem] theorem fn98:isFn Tryz.prog 98:=⟨_,Tryz.func98,rfl,by kernel_rfl⟩
@[go_sem] theorem fn99:isFn Tryz.prog 99:=⟨_,Tryz.func99,rfl,by kernel_rfl⟩
@[go_sem] theorem Zvt:isFn Tryz.prog 100:=⟨_,Tryz.func100,rfl,by kernel_rfl⟩
@[go_sem] theorem Zvu:isFn Tryz.prog 101:=⟨_,Tryz.func101,rfl,by kernel_rfl⟩
@[go_sem] theorem Zvv:isFn Tryz.prog 102:=⟨_,Tryz.func102,rfl,by kernel_rfl⟩
@[go_sem] theorem Zvw:isFn Tryz.prog 103:=⟨_,Tryz.func103,rfl,by kernel_rfl⟩
@[go_sem] theorem Zvx:isFn Tryz.prog 104:=⟨_,Tryz.func104,rfl,by kernel_rfl⟩
@[go_sem] theorem Zvy:isFn Tryz.prog 105:=⟨_,Tryz.func105,rfl,by kernel_rfl⟩
@[go_sem] theorem Zvz:isFn Tryz.prog 106:=⟨_,Tryz.func106,rfl,by kernel_rfl⟩
@[go_sem] theorem ZvA:isFn Tryz.prog 107:=⟨_,Tryz.func107,rfl,by kernel_rfl⟩
@[go_sem] theorem ZvB:isFn Tryz.prog 108:=⟨_,Tryz.func108,rfl,by kernel_rfl⟩
@[go_sem] theorem ZvC:isFn Tryz.prog 109:=⟨_,Tryz.func109,rfl,by kernel_rfl⟩
@[go_sem] theorem ZvD:isFn Tryz.prog 110:=⟨_,Tryz.func110,rfl,by kernel_rfl⟩
@[go_sem] theorem ZvE:isFn Tryz.prog 111:=⟨_,Tryz.func111,rfl,by kernel_rfl⟩
@[go_sem] theorem ZvF:isFn Tryz.prog 112:=⟨_,Tryz.func112,rfl,by kernel_rfl⟩
@[go_sem] theorem ZvG:isFn Tryz.prog 113:=⟨_,Tryz.func113,rfl,by kernel_rfl⟩
@[go_sem] theorem ZvH:isFn Tryz.prog 114:=⟨_,Tryz.func114,rfl,by kernel_rfl⟩
@[go_sem] theorem ZvI:isFn Tryz.prog 115:=⟨_,Tryz.func115,rfl,by kernel_rfl⟩
@[go_sem] theorem ZvJ:isFn Tryz.prog 116:=⟨_,Tryz.func116,rfl,by kernel_rfl⟩
@[go_sem] theorem ZvK:isFn Tryz.prog 117:=⟨_,Tryz.func117,rfl,by kernel_rfl⟩
@[go_sem] theorem ZvL:isFn Tryz.prog 118:=⟨_,Tryz.func118,rfl,by kernel_rfl⟩
@[go_sem] theorem ZvM:isFn Tryz.prog 119:=⟨_,Tryz.func119,rfl,by kernel_rfl⟩
@[go_sem] theorem ZvN:isFn Tryz.prog 120:=⟨_,Tryz.func120,rfl,by kernel_rfl⟩
@[go_sem] theorem ZvO:isFn Tryz.prog 121:=⟨_,Tryz.func121,rfl,by kernel_rfl⟩
@[go_sem] theorem ZvP:isFn Tryz.prog 122:=⟨_,Tryz.func122,rfl,by kernel_rfl⟩
@[go_sem] theorem ZvQ:isFn Tryz.prog 123:=⟨_,Tryz.func123,rfl,by kernel_rfl⟩
@[go_sem] theorem ZvR:isFn Tryz.prog 124:=⟨_,Tryz.func124,rfl,by kernel_rfl⟩
@[go_sem] theorem ZvS:isFn Tryz.prog 125:=⟨_,Tryz.func125,rfl,by kernel_rfl⟩
@[go_sem] theorem ZvT:isFn Tryz.prog 126:=⟨_,Tryz.func126,rfl,by kernel_rfl⟩
@[go_sem] theorem ZvU:isFn Tryz.prog 127:=⟨_,Tryz.func127,rfl,by kernel_rfl⟩
@[go_sem] theorem ZvV:isFn Tryz.prog 128:=⟨_,Tryz.func128,rfl,by kernel_rfl⟩
@[go_sem] theorem ZvW:isFn Tryz.prog 129:=⟨_,Tryz.func129,rfl,by kernel_rfl⟩
@[go_sem] theorem ZvX:isFn Tryz.prog 130:=⟨_,Tryz.func130,rfl,by kernel_rfl⟩
@[go_sem] theorem ZvY:isFn Tryz.prog 131:=⟨_,Tryz.func131,rfl,by kernel_rfl⟩
@[go_sem] theorem ZvZ:isFn Tryz.prog 132:=⟨_,Tryz.func132,rfl,by kernel_rfl⟩
@[go_sem] theorem Zv0:isFn Tryz.prog 133:=⟨_,Tryz.func133,rfl,by kernel_rfl⟩
@[go_sem] theorem Zv1:isFn Tryz.prog 134:=⟨_,Tryz.func134,rfl,by kernel_rfl⟩
@[go_sem] theorem Zv2:isFn Tryz.prog 135:=⟨_,Tryz.func135,rfl,by kernel_rfl⟩
@[go_sem] theorem Zv3:isFn Tryz.prog 136:=⟨_,Tryz.func136,rfl,by kernel_rfl⟩
@[go_sem] theorem Zv4:isFn Tryz.prog 137:=⟨_,Tryz.func137,rfl,by kernel_rfl⟩
@[go_sem] theorem Zv5:isFn Tryz.prog 138:=⟨_,Tryz.func138,rfl,by kernel_rfl⟩
@[go_sem] theorem Zv6:isFn Tryz.prog 139:=⟨_,Tryz.func139,rfl,by kernel_rfl⟩
@[go_sem] theorem Zv7:isFn Tryz.prog 140:=⟨_,Tryz.func140,rfl,by kernel_rfl⟩
@[go_sem] theorem Zv8:isFn Tryz.prog 141:=⟨_,Tryz.func141,rfl,by kernel_rfl⟩
@[go_sem] theorem Zv9:isFn Tryz.prog 142:=⟨_,Tryz.func142,rfl,by kernel_rfl⟩
@[go_sem] theorem Zwa:isFn Tryz.prog 143:=⟨_,Tryz.func143,rfl,by kernel_rfl⟩
@[go_sem] theorem Zwb:isFn Tryz.prog 144:=⟨_,Tryz.func144,rfl,by kernel_rfl⟩
@[go_sem] theorem Zwc:isFn Tryz.prog 145:=⟨_,Tryz.func145,rfl,by kernel_rfl⟩
@[go_sem] theorem Zwd:isFn Tryz.prog 146:=⟨_,Tryz.func146,rfl,by kernel_rfl⟩
@[go_sem] theorem Zwe:isFn Tryz.prog 147:=⟨_,Tryz.func147,rfl,by kernel_rfl⟩
@[go_sem] theorem Zwf:isFn Tryz.prog 148:=⟨_,Tryz.func148,rfl,by kernel_rfl⟩
@[go_sem] theorem Zwg:isFn Tryz.prog 149:=⟨_,Tryz.func149,rfl,by kernel_rfl⟩
@[go_sem] theorem Zwh:isFn Tryz.prog 150:=⟨_,Tryz.func150,rfl,by kernel_rfl⟩
@[go_sem] theorem Zwi:isFn Tryz.prog 151:=⟨_,Tryz.func151,rfl,by kernel_rfl⟩
@[go_sem] theorem Zwj:isFn Tryz.prog 152:=⟨_,Tryz.func152,rfl,by kernel_rfl⟩
@[go_sem] theorem Zwk:isFn Tryz.prog 153:=⟨_,Tryz.func153,rfl,by kernel_rfl⟩
@[go_sem] theorem Zwl:isFn Tryz.prog 154:=⟨_,Tryz.func154,rfl,by kernel_rfl⟩
@[go_sem] theorem Zwm:isFn Tryz.prog 155:=⟨_,Tryz.func155,rfl,by kernel_rfl⟩
@[go_sem] theorem Zwn:isFn Tryz.prog 156:=⟨_,Tryz.func156,rfl,by kernel_rfl⟩
@[go_sem] theorem Zwo:isFn Tryz.prog 157:=⟨_,Tryz.func157,rfl,by kernel_rfl⟩
@[go_sem] theorem Zwp:isFn Tryz.prog 158:=⟨_,Tryz.func158,rfl,by kernel_rfl⟩
@[go_sem] theorem Zwq:isFn Tryz.prog 159:=⟨_,Tryz.func159,rfl,by kernel_rfl⟩
@[go_sem] theorem Zwr:isFn Tryz.prog 160:=⟨_,Tryz.func160,rfl,by kernel_rfl⟩
@[go_sem] theorem Zws:isFn Tryz.prog 162:=⟨_,Tryz.func162,rfl,by kernel_rfl⟩
@[go_sem] theorem Zwt:isFn Tryz.prog 163:=⟨_,Tryz.func163,rfl,by kernel_rfl⟩
@[go_sem] theorem Zwu:isFn Tryz.prog 164:=⟨_,Tryz.func164,rfl,by kernel_rfl⟩
@[go_sem] theorem Zwv:isFn Tryz.prog 165:=⟨_,Tryz.func165,rfl,by kernel_rfl⟩
@[go_sem] theorem Zww:isFn Tryz.prog 166:=⟨_,Tryz.func166,rfl,by kernel_rfl⟩
@[go_sem] theorem Zwx:isFn Tryz.prog 167:=⟨_,Tryz.func167,rfl,by kernel_rfl⟩
@[go_sem] theorem Zwy:isFn Tryz.prog 168:=⟨_,Tryz.func168,rfl,by kernel_rfl⟩
@[go_sem] theorem Zwz:isFn Tryz.prog 169:=⟨_,Tryz.func169,rfl,by kernel_rfl⟩
@[go_sem] theorem ZwA:isFn Tryz.prog 170:=⟨_,Tryz.func170,rfl,by kernel_rfl⟩
@[go_sem] theorem ZwB:isFn Tryz.prog 171:=⟨_,Tryz.func171,rfl,by kernel_rfl⟩
@[go_sem] theorem ZwC:isFn Tryz.prog 172:=⟨_,Tryz.func172,rfl,by kernel_rfl⟩
@[go_sem] theorem ZwD:isFn Tryz.prog 173:=⟨_,Tryz.func173,rfl,by kernel_rfl⟩
@[go_sem] theorem ZwE:isFn Tryz.prog 174:=⟨_,Tryz.func174,rfl,by kernel_rfl⟩
@[go_sem] theorem ZwF:isFn Tryz.prog 175:=⟨_,Tryz.func175,rfl,by kernel_rfl⟩
@[go_sem] theorem ZwG:isFn Tryz.prog 176:=⟨_,Tryz.func176,rfl,by kernel_rfl⟩
@[go_sem] theorem ZwH:isFn Tryz.prog 178:=⟨_,Tryz.func178,rfl,by kernel_rfl⟩
@[go_sem] theorem ZwI:isFn Tryz.prog 179:=⟨_,Tryz.func179,rfl,by kernel_rfl⟩
instance:ZS cInt:=⟨fun x q h=>by simp only [cInt,List.mem_singleton] at h; subst h; rfl⟩
instance:Zgl cInt:=⟨fun x q h=>by simp only [cInt,List.mem_singleton] at h; subst h; rfl⟩
instance:ZS cStr:=⟨fun x q h=>by simp only [cStr,List.mem_singleton] at h; subst h; rfl⟩
instance:Zgl cStr:=⟨fun x q h=>by simp only [cStr,List.mem_singleton] at h; subst h; rfl⟩
instance:ZS Zkw:=⟨fun x q h=>by simp only [Zkw,List.mem_singleton] at h; subst h; rfl⟩
instance:Zgl Zkw:=⟨fun x q h=>by simp only [Zkw,List.mem_singleton] at h; subst h; rfl⟩
structure YB8 where
 v:Int
deriving DecidableEq
def cB8 (x:YB8):List PV:=[v8 x.v]
instance:ZaO YB8:=⟨cB8⟩
instance:ZS cB8:=⟨fun x q h=>by simp only [cB8,List.mem_singleton] at h; subst h; rfl⟩
instance:Zgl cB8:=⟨fun x q h=>by simp only [cB8,List.mem_singleton] at h; subst h; rfl⟩
structure ZrP where
 b:List YB8
 i:Int
 h:Int
deriving DecidableEq
def Zjk (x:ZrP):List PV:=[.sl (x.b.map cB8),vi x.i,vi x.h]
instance:ZaO ZrP:=⟨Zjk⟩
instance:ZS Zjk:=⟨fun x q h=>by simp only [Zjk,List.mem_cons,List.not_mem_nil,or_false] at h; (repeat' (first | (rcases h with rfl | h; rfl) | (subst h; rfl)))⟩
instance:ZaO Zd8:=⟨ZfP⟩
instance:ZS ZfP:=⟨fun x q h=>by simp only [ZfP,List.mem_cons,List.not_mem_nil,or_false] at h; (repeat' (first | (rcases h with rfl | h; rfl) | (subst h; rfl)))⟩
instance:Zgl ZfP:=⟨fun x q h=>by simp only [ZfP,List.mem_cons,List.not_mem_nil,or_false] at h; (repeat' (first | (rcases h with rfl | h; rfl) | (subst h; rfl)))⟩
instance:ZaO Zt:=⟨Z9⟩
instance:ZS Z9:=⟨fun x q h=>by simp only [Z9,List.mem_cons,List.not_mem_nil,or_false] at h; (repeat' (first | (rcases h with rfl | h; rfl) | (subst h; rfl)))⟩
instance:ZaO YZone:=⟨cZone⟩
instance:ZS cZone:=⟨fun x q h=>by simp only [cZone,List.mem_cons,List.not_mem_nil,or_false] at h; (repeat' (first | (rcases h with rfl | h; rfl) | (subst h; rfl)))⟩
instance:Zgl cZone:=⟨fun x q h=>by simp only [cZone,List.mem_cons,List.not_mem_nil,or_false] at h; (repeat' (first | (rcases h with rfl | h; rfl) | (subst h; rfl)))⟩
instance:ZaO YRate:=⟨cRate⟩
instance:ZS cRate:=⟨fun x q h=>by simp only [cRate,List.mem_cons,List.not_mem_nil,or_false] at h; (repeat' (first | (rcases h with rfl | h; rfl) | (subst h; rfl)))⟩
instance:Zgl cRate:=⟨fun x q h=>by simp only [cRate,List.mem_cons,List.not_mem_nil,or_false] at h; (repeat' (first | (rcases h with rfl | h; rfl) | (subst h; rfl)))⟩
instance:ZaO YLeg:=⟨cLeg⟩
instance:ZS cLeg:=⟨fun x q h=>by simp only [cLeg,List.mem_cons,List.not_mem_nil,or_false] at h; (repeat' (first | (rcases h with rfl | h; rfl) | (subst h; rfl)))⟩
instance:Zgl cLeg:=⟨fun x q h=>by simp only [cLeg,List.mem_cons,List.not_mem_nil,or_false] at h; (repeat' (first | (rcases h with rfl | h; rfl) | (subst h; rfl)))⟩
instance:ZaO YNetwork:=⟨cNetwork⟩
instance:ZS cNetwork:=⟨fun x q h=>by simp only [cNetwork,List.mem_cons,List.not_mem_nil,or_false] at h; (repeat' (first | (rcases h with rfl | h; rfl) | (subst h; rfl)))⟩
instance:ZaO Zm:=⟨Zv⟩
instance:ZS Zv:=⟨fun x q h=>by simp only [Zv,List.mem_cons,List.not_mem_nil,or_false] at h; (repeat' (first | (rcases h with rfl | h; rfl) | (subst h; rfl)))⟩
instance:Zgl Zv:=⟨fun x q h=>by simp only [Zv,List.mem_cons,List.not_mem_nil,or_false] at h; (repeat' (first | (rcases h with rfl | h; rfl) | (subst h; rfl)))⟩
instance:ZaO Zb:=⟨Zd⟩
instance:ZS Zd:=⟨fun x q h=>by simp only [Zd,List.mem_cons,List.not_mem_nil,or_false] at h; (repeat' (first | (rcases h with rfl | h; rfl) | (subst h; rfl)))⟩
instance:Zgl Zd:=⟨fun x q h=>by simp only [Zd,List.mem_cons,List.not_mem_nil,or_false] at h; (repeat' (first | (rcases h with rfl | h; rfl) | (subst h; rfl)))⟩
instance:ZaO Z2:=⟨ZK⟩
instance:ZS ZK:=⟨fun x q h=>by simp only [ZK,List.mem_cons,List.not_mem_nil,or_false] at h; (repeat' (first | (rcases h with rfl | h; rfl) | (subst h; rfl)))⟩
instance:Zgl ZK:=⟨fun x q h=>by simp only [ZK,List.mem_cons,List.not_mem_nil,or_false] at h; (repeat' (first | (rcases h with rfl | h; rfl) | (subst h; rfl)))⟩
instance:ZaO Zr:=⟨Zz⟩
instance:ZS Zz:=⟨fun x q h=>by simp only [Zz,List.mem_cons,List.not_mem_nil,or_false] at h; (repeat' (first | (rcases h with rfl | h; rfl) | (subst h; rfl)))⟩
instance:ZaO Zf:=⟨ZeG⟩
instance:ZS ZeG:=⟨fun x q h=>by simp only [ZeG,List.mem_cons,List.not_mem_nil,or_false] at h; (repeat' (first | (rcases h with rfl | h; rfl) | (subst h; rfl)))⟩
instance:ZaO ZR:=⟨Zap⟩
instance:ZS Zap:=⟨fun x q h=>by simp only [Zap,List.mem_cons,List.not_mem_nil,or_false] at h; (repeat' (first | (rcases h with rfl | h; rfl) | (subst h; rfl)))⟩
instance:Zgl Zap:=⟨fun x q h=>by simp only [Zap,List.mem_cons,List.not_mem_nil,or_false] at h; (repeat' (first | (rcases h with rfl | h; rfl) | (subst h; rfl)))⟩
instance:ZaO YAct:=⟨cAct⟩
instance:ZS cAct:=⟨fun x q h=>by simp only [cAct,List.mem_cons,List.not_mem_nil,or_false] at h; (repeat' (first | (rcases h with rfl | h; rfl) | (subst h; rfl)))⟩
instance:ZaO Zj:=⟨ZeU⟩
instance:ZS ZeU:=⟨fun x q h=>by simp only [ZeU,List.mem_cons,List.not_mem_nil,or_false] at h; (repeat' (first | (rcases h with rfl | h; rfl) | (subst h; rfl)))⟩
instance:ZaO Zoy:=⟨Zie⟩
instance:ZS Zie:=⟨fun x q h=>by simp only [Zie,List.mem_cons,List.not_mem_nil,or_false] at h; (repeat' (first | (rcases h with rfl | h; rfl) | (subst h; rfl)))⟩
instance:Zgl Zie:=⟨fun x q h=>by simp only [Zie,List.mem_cons,List.not_mem_nil,or_false] at h; (repeat' (first | (rcases h with rfl | h; rfl) | (subst h; rfl)))⟩
instance:ZaO Zow:=⟨Zic⟩
instance:ZS Zic:=⟨fun x q h=>by simp only [Zic,List.mem_cons,List.not_mem_nil,or_false] at h; (repeat' (first | (rcases h with rfl | h; rfl) | (subst h; rfl)))⟩
instance:ZaO Zox:=⟨Zid⟩
instance:ZS Zid:=⟨fun x q h=>by simp only [Zid,List.mem_cons,List.not_mem_nil,or_false] at h; (repeat' (first | (rcases h with rfl | h; rfl) | (subst h; rfl)))⟩
instance:ZaO Zov:=⟨Zhd⟩
instance:ZS Zhd:=⟨fun x q h=>by simp only [Zhd,List.mem_cons,List.not_mem_nil,or_false] at h; (repeat' (first | (rcases h with rfl | h; rfl) | (subst h; rfl)))⟩
instance:ZaO ZrO:=⟨ZhA⟩
instance:ZS ZhA:=⟨fun x q h=>by simp only [ZhA,List.mem_cons,List.not_mem_nil,or_false] at h; (repeat' (first | (rcases h with rfl | h; rfl) | (subst h; rfl)))⟩
instance:Zgl ZhA:=⟨fun x q h=>by simp only [ZhA,List.mem_cons,List.not_mem_nil,or_false] at h; (repeat' (first | (rcases h with rfl | h; rfl) | (subst h; rfl)))⟩
instance:ZaO Zou:=⟨Zhc⟩
instance:ZS Zhc:=⟨fun x q h=>by simp only [Zhc,List.mem_cons,List.not_mem_nil,or_false] at h; (repeat' (first | (rcases h with rfl | h; rfl) | (subst h; rfl)))⟩
attribute [go_sem] cInt cStr Zkw cB8 Zjk ZfP Z9 cZone cRate cLeg cNetwork Zv Zd ZK Zz ZeG Zap cAct ZeU Zie Zic Zid Zhd ZhA Zhc ZaO.c
theorem Zm7 {n:Nat} {a b a2 b2:Int}:eqT Tryz.prog (n+3) 104 [vi a,vi b] [vi a2,vi b2]=some (decide ((⟨a,b⟩:Zm)=(⟨a2,b2⟩:Zm))):=by
 simp only [eqT,Tryz.underlying3,Tryz.underlying104,Zty,Program.fieldsOf,go_sem]
 simp [Ztv,tc3]
 try rfl
@[go_sem] theorem ZuG {a b a2 b2:Int} {KR:PV→Prop}:eqK Tryz.prog .eql 104 [vi a,vi b] [vi a2,vi b2] KR=KR (vb (decide ((⟨a,b⟩:Zm)=(⟨a2,b2⟩:Zm)))):=by unfold eqK; rw [show (10000:Nat)=9997+3 from rfl,Zm7,Tryz.underlying104]; simp only [Zut,true_and]
@[go_sem] theorem ZuI {a b a2 b2:Int} {KR:PV→Prop}:eqK Tryz.prog .neq 104 [vi a,vi b] [vi a2,vi b2] KR=KR (vb (!decide ((⟨a,b⟩:Zm)=(⟨a2,b2⟩:Zm)))):=by unfold eqK; rw [show (10000:Nat)=9997+3 from rfl,Zm7,Tryz.underlying104]; simp only [Zut,true_and]
theorem Zik {n:Nat} {a b c d a2 b2 c2 d2:Int}:eqT Tryz.prog (n+3) 161 [vi a,vi b,vi c,vi d] [vi a2,vi b2,vi c2,vi d2]=some (decide ((⟨a,⟨b,c⟩,d⟩:Zb)=(⟨a2,⟨b2,c2⟩,d2⟩:Zb))):=by
 simp only [eqT,Tryz.underlying3,Tryz.underlying161,Zve,Tryz.underlying104,Zty,Program.fieldsOf,go_sem]
 simp [Zvb,Ztv,tc3]
 try rfl
@[go_sem] theorem ZsL {a b c d a2 b2 c2 d2:Int} {KR:PV→Prop}:eqK Tryz.prog .eql 161 [vi a,vi b,vi c,vi d] [vi a2,vi b2,vi c2,vi d2] KR=KR (vb (decide ((⟨a,⟨b,c⟩,d⟩:Zb)=(⟨a2,⟨b2,c2⟩,d2⟩:Zb)))):=by unfold eqK; rw [show (10000:Nat)=9997+3 from rfl,Zik,Tryz.underlying161]; simp only [Zuw,true_and]
@[go_sem] theorem Zs5 {a b c d a2 b2 c2 d2:Int} {KR:PV→Prop}:eqK Tryz.prog .neq 161 [vi a,vi b,vi c,vi d] [vi a2,vi b2,vi c2,vi d2] KR=KR (vb (!decide ((⟨a,⟨b,c⟩,d⟩:Zb)=(⟨a2,⟨b2,c2⟩,d2⟩:Zb)))):=by unfold eqK; rw [show (10000:Nat)=9997+3 from rfl,Zik,Tryz.underlying161]; simp only [Zuw,true_and]
def frz (t:List PV) (m:Mem):Option Unit:=some ()
theorem Cuts.trans {n0:Nat} {t t1 t2:List PV} {m m1 m2:Mem} (h:Cuts n0 t m t1 m1) (k:Cuts n0 t1 m1 t2 m2):Cuts n0 t m t2 m2:=by
 induction h with
 | one h=>exact .two h k
 | two h h' ih=>exact .two h (ih k)
theorem ZpW {P:Program} {n0:Nat} {Q:Exit→List PV→Mem→Prop} {t T:List PV} {m M:Mem} {α β:Type} {F:Unit→Option α} {K:α→Option β} {r:β} {i:Nat} {ops:Array Oper} {draw:Bool}
 (H:((frz T M).bind F).bind K=some r) (hc:Cuts n0 t m T M) (hk:(F ()).bind K=some r→pwp P n0 (.region i ops draw) Q T M):pwp P n0 (.region i ops draw) Q t m:=by
 rcases hk H with h | ⟨t1,m1,h1,h2⟩
 ·exact .inr ⟨T,M,hc,h⟩
 ·exact .inr ⟨t1,m1,hc.trans h1,h2⟩
def drwL (wd:Nat) (fl:List Nat):Option Unit:=some ()
theorem Znw {P:Program} {n0:Nat} {Q:Exit→List PV→Mem→Prop} {t:List PV} {m:Mem} {α β:Type} {wd:Nat} {fl:List Nat} {F:Unit→Option α} {K:α→Option β} {r:β} {id:Nat} {ops:List Oper}
 (H:((drwL wd fl).bind F).bind K=some r) (hwd:decide (0<wd)=true) (h1:P.follows .mixedOrders=true) (hk:(F ()).bind K=some r→ZdZ P wd m.length fl ops.toArray (endD ops (Q .normal)) 0 ops [] t m):pwp P n0 (.region id ops.toArray true) Q t m:=ZpV hwd h1 (hk H)
theorem ZkI {m m':Mem} {rs:List (Option Nat)} {α:Type} {f:α→List PV} [ZS f] {xs:List α} {x:α} {cs:List PV} {k k' n:Nat} {T:TK} (hm:look m k=some ⟨T,k',(xs.map f).set n cs⟩) (hc:f x=cs) (hd:Ze6 (rho rs) m' k):CutC (rho rs) m m' (.ms k) (.sl ((xs.set n x).map f)):=by
 subst hc
 refine ZjN (f:=f) (xs:=xs.set n x) (T:=T) (k':=k') ?_ hd
 rw [hm,List.map_set]
theorem ZmY {m m':Mem} {rs:List (Option Nat)} {α:Type} {f:α→List PV} [ZS f] {xs:List α} {a b:Int} {k k' A B:Nat} {T:TK} (hm:look m k=some ⟨T,k',xs.map f⟩) (hA:A=a.toNat) (hB:B=b.toNat) (hd:Ze6 (rho rs) m' k):CutC (rho rs) m m' (.ss k A B) (.sl ((subL xs a b).map f)):=by
 subst hA hB
 have:=CutC.fss (ρ:=rho rs) (m:=m) (m':=m') k a.toNat b.toNat ⟨T,k',xs.map f⟩ (Zda.1 hm) Zh5 hd
 simpa only [Zfo,Zft,subL] using this
def rgI {α:Type} (xs:List α) (i:Int):Option α:=getI xs i
theorem rgH {α β γ:Type} {xs:List α} {i:Int} {F:α→Option β} {K:β→Option γ} {r:γ} (H:((rgI xs i).bind F).bind K=some r):∃ x,getI xs i=some x∧(F x).bind K=some r:=Zia H
theorem ZhD {α:Type} {f:α→List PV} {xs:List α} {x:α} {i:Int} {cs:List PV} (h:getI xs i=some x):((xs.map f).set i.toNat cs)[i.toNat]?=some cs:=by
 rw [List.getElem?_set_self]
 have:=(List.getElem?_eq_some_iff.1 (ZgT h).2).1
 simpa using this
theorem Zng {P:Program} {m:Mem} {KR:PV→Prop} {α:Type} [ZaO α] {xs:List α} {x:α} {T:TypeId} {T':TK} {l k' n:Nat} {cs:List PV} {i:Int} {k:IntKind} (h:getI xs i=some x) (hm:look m l=some ⟨T',k',(xs.map ZaO.c).set n cs⟩) (hp:0<Zd6 P T) (hk:k'=Zd6 P T) (hK:KR (.be l i.toNat 0)):ZH P m T (.ms l) (.v (.int k i)) KR:=by
 obtain ⟨h1,h2,h3⟩:=ZlU h
 obtain ⟨e,hu,he⟩:=ZgR hp
 rw [he] at hk
 simp only [ZH,hu,ZeJ,hm,List.length_map,List.length_set]
 exact ⟨h1,h2,hk,hK⟩
attribute [go_sem] List.length_set List.set_set
def frzL {α:Type} (x:α) (t:α→List PV) (m:α→Mem):Option α:=some x
theorem Zny {P:Program} {n0:Nat} {Q:Exit→List PV→Mem→Prop} {t:List PV} {m:Mem} {ξ α β:Type} {x:ξ} {T:ξ→List PV} {M:ξ→Mem} {F:ξ→Option α} {K:α→Option β} {r:β} {i:Nat} {ops:Array Oper} {draw:Bool}
 (H:((frzL x T M).bind F).bind K=some r) (hc:Cuts n0 t m (T x) (M x)) (hk:∀ z,(F z).bind K=some r→pwp P n0 (.region i ops draw) Q (T z) (M z)):pwp P n0 (.region i ops draw) Q t m:=by
 rcases hk x H with h | ⟨t1,m1,h1,h2⟩
 ·exact .inr ⟨T x,M x,hc,h⟩
 ·exact .inr ⟨t1,m1,hc.trans h1,h2⟩
def rhoM (ρ:List Nat):Option Unit:=some ()
theorem ZoF {R α β:Type} {P:Program} {ρ:List Nat} {A:Option R} [C:CT P A] {F:Unit→Option α} {G:R→Option α} {K:α→Option β} {r:β} {f:FuncId} {ps:List PV} {io:Bool} {wd ν:Nat} {m:Mem} {KA:PV→Mem→Prop}
 (H:((rhoM ρ).bind F).bind K=some r) (hF:F ()=A.bind G) (hf:C.f=f) (hio:io=true) (hps:ps=C.args.map (renA (sig ρ ν))) (hq:∀ q∈C.args,ZeY false q∧lowA C.m0.length q=true) (hn:ρ.Nodup) (hin:ZeW (sig ρ ν) m C.m0.length ρ C.m0)
 (hlen:∀ y,C.m0.length≤(C.mem y).length∧(C.mem y).length-C.m0.length≤wd) (hm:∀ y,∀ mb,some mb∈C.mem y→∀ cs∈mb.es,∀ p∈cs,ZY false p) (hg:∀ y,ZeZ false (C.res y))
 (hk:∀ y,A=some y→(G y).bind K=some r→KA (renV (sig ρ ν) (C.res y)) (Zcs (sig ρ ν) ν ((C.mem y).drop ρ.length) (Zev (sig ρ ν) ρ (C.mem y) m))):ZfC P io wd ν f ps m KA:=by
 have H':(F ()).bind K=some r:=H
 rw [hF] at H'
 obtain ⟨y,hy,H2⟩:=Zia H'
 subst hf
 exact .inr ⟨ρ,C.m0,C.args,C.res y,C.mem y,.inl hio,C.ok hy,(hlen y).1,(hlen y).2,hps,hq,hn,hin,hm y,hg y,hk y hy H2⟩
theorem ZmN {R α β:Type} {P:Program} {ρ:List Nat} {A:Option R} [C:CT P A] {F:Unit→Option α} {G:R→Option α} {K:α→Option β} {r:β} {f:FuncId} {ps:List PV} {wd ν:Nat} {m:Mem} {KA:List Nat→PV→Mem→Prop}
 (H:((rhoM ρ).bind F).bind K=some r) (hF:F ()=A.bind G) (hf:C.f=f) (hps:ps=C.args.map (renA (sig ρ ν))) (hq:∀ q∈C.args,ZeY false q∧lowA C.m0.length q=true) (hn:ρ.Nodup) (hin:ZeW (sig ρ ν) m C.m0.length ρ C.m0)
 (hlen:∀ y,C.m0.length≤(C.mem y).length∧(C.mem y).length-C.m0.length≤wd) (hm:∀ y,∀ mb,some mb∈C.mem y→∀ cs∈mb.es,∀ p∈cs,ZY false p) (hg:∀ y,ZeZ false (C.res y))
 (hk:∀ y,A=some y→(G y).bind K=some r→KA ρ (renV (sig ρ ν) (C.res y)) (Zcs (sig ρ ν) ν ((C.mem y).drop ρ.length) (Zev (sig ρ ν) ρ (C.mem y) m))):pIO P wd ν f ps m KA:=by
 have H':(F ()).bind K=some r:=H
 rw [hF] at H'
 obtain ⟨y,hy,H2⟩:=Zia H'
 subst hf
 exact ⟨ρ,C.m0,C.args,C.res y,C.mem y,C.ok hy,(hlen y).1,(hlen y).2,hps,hq,hn,hin,hm y,hg y,hk y hy H2⟩
def Zso:Prop:=True
theorem rhoH {α β:Type} {ρ:List Nat} {F:Unit→Option α} {K:α→Option β} {r:β} (H:((rhoM ρ).bind F).bind K=some r):Zso:=trivial
theorem rhoS {P:Program} {f:FuncId} {ps:List PV} {io:Bool} {wd ν:Nat} {m:Mem} {KA:PV→Mem→Prop} (h:Zso) (hk:ZfC P io wd ν f ps m KA):ZfC P io wd ν f ps m KA:=hk
theorem Zui {P:Program} {f:FuncId} {ps:List PV} {wd ν:Nat} {m:Mem} {KA:List Nat→PV→Mem→Prop} (h:Zso) (hk:pIO P wd ν f ps m KA):pIO P wd ν f ps m KA:=hk
theorem Zgf {σ:Nat→Nat} {m:Mem} {n:Nat}:ZeW σ m n [] []:=trivial
theorem Zre {n:Nat} {p:PV} (h:isC p=true):lowC n p=true:=by
 cases p with
 | fn f cs=>
  simp only [isC,List.all_eq_true] at h
  simp only [lowC,List.all_eq_true]
  intro c hc
  have:=h c hc
  cases c <;> simp_all [isC1,low1]
 | _=>simp_all [isC,isC1,lowC,low1]
theorem Zge {α:Type} {f:α→List PV} [hf:ZS f] {σ:Nat→Nat} {m:Mem} {T:TK} {n l k:Nat} {xs:List α} {ρ:List Nat} {m0:Mem} (hl:look m l=some ⟨T,k,xs.map f⟩) (h:ZeW σ m n ρ m0):ZeW σ m n (l::ρ) (some ⟨T,k,xs.map f⟩::m0):=by
 refine ⟨?_,fun cs hcs p hp=>?_,h⟩
 ·rw [Zda.1 hl]
  simp only [ZeS,Zlp]
 ·obtain ⟨x,_,rfl⟩:=List.mem_map.1 hcs
  exact ⟨Zgc (hf.h x p hp),Zre (hf.h x p hp)⟩
theorem Zgg {σ:Nat→Nat} {m:Mem} {T:TK} {n l k:Nat} {cs cs':List PV} {ρ:List Nat} {m0:Mem} (hl:look m l=some ⟨T,k,[cs']⟩) (hc:cs'=cs.map (renC σ)) (hg:∀ p∈cs,ZY false p∧lowC n p=true) (h:ZeW σ m n ρ m0):ZeW σ m n (l::ρ) (some ⟨T,k,[cs]⟩::m0):=by
 subst hc
 refine ⟨Zda.1 hl,fun ds hds p hp=>?_,h⟩
 obtain rfl:ds=cs:=by simpa using hds
 exact hg p hp
@[irreducible] def jn {ο α:Type} (i j:Nat) (J:Option (ο ⊕ α)) (T:ο→List PV) (M:ο→Mem):Option (ο ⊕ α):=J
def hdC:Code→Bool
 | .region _ _ _=>true
 | .loop _=>true
 | .seq a _=>hdC a
 | .block _ c=>hdC c
 | _=>false
def idC:Code→Nat
 | .region i _ _=>i
 | .loop c=>idC c
 | .seq a _=>idC a
 | .block _ c=>idC c
 | _=>0
theorem Zkc {P:Program} {n0:Nat}:∀ (c:Code),hdC c=true→∀ {Q:Exit→List PV→Mem→Prop} {t T:List PV} {m M:Mem},Cuts n0 t m T M→pwp P n0 c Q T M→pwp P n0 c Q t m
 | .region i ops draw,_,Q,t,T,m,M,hc,h=>by
  rcases h with h | ⟨t1,m1,h1,h2⟩
  ·exact .inr ⟨T,M,hc,h⟩
  ·exact .inr ⟨t1,m1,hc.trans h1,h2⟩
 | .loop c,_,Q,t,T,m,M,hc,h=>by
  obtain ⟨I,n,t0,m0,h1,h2⟩:=h
  exact ⟨I,n,t0,m0,hc.trans h1,h2⟩
 | .seq a b,hd,Q,t,T,m,M,hc,h=>Zkc a hd hc h
 | .block i c,hd,Q,t,T,m,M,hc,h=>Zkc c hd hc h
theorem ZpX {P:Program} {n0:Nat} {Q:Exit→List PV→Mem→Prop} {t:List PV} {m:Mem} {a b:Code} {ο α β γ:Type} {J:Option (ο ⊕ α)} {T:ο→List PV} {M:ο→Mem} {G:ο→Option β} {F:α→Option β} {K:β→Option γ} {r:γ}
 {i j:Nat} (H:((jn i j J T M).bind (Zp G F)).bind K=some r) (hd:hdC b=true) (hi:(idC a == i && idC b == j)=true)
 (h1:∀ K':List PV→Mem→Prop,(∀ o t' m',(G o).bind K=some r→Cuts n0 t' m' (T o) (M o)→K' t' m')→J.bind (Zp (fun o=>(G o).bind K) (fun v=>(F v).bind K))=some r→pwp P n0 a (Zf5 K' Q) t m)
 (h2:∀ o,(G o).bind K=some r→pwp P n0 b Q (T o) (M o)):pwp P n0 (.seq a b) Q t m:=by
 unfold jn at H
 refine h1 (fun t m=>pwp P n0 b Q t m) (fun o t' m' h hc=>Zkc b hd hc (h2 o h)) ?_
 cases J with
 | none=>cases H
 | some x=>cases x <;> exact H
theorem jnX {ο α β:Type} {n0:Nat} {s:ο} {F:ο→Option β} {K:α→Option β} {r:β} {Kp:List PV→Mem→Prop} {T:ο→List PV} {M:ο→Mem} {t:List PV} {m:Mem} (H:(some (Sum.inl s)).bind (Zp F K)=some r) (hL:∀ o t' m',F o=some r→Cuts n0 t' m' (T o) (M o)→Kp t' m') (hc:Cuts n0 t m (T s) (M s)):Kp t m:=hL s t m H hc
def IsJn:Prop:=True
theorem jnH {ο α β γ:Type} {i j:Nat} {J:Option (ο ⊕ α)} {T:ο→List PV} {M:ο→Mem} {G:(ο ⊕ α)→Option β} {K:β→Option γ} {r:γ} (H:((jn i j J T M).bind G).bind K=some r):IsJn:=trivial
theorem jnS {P:Program} {n0:Nat} {Q:Exit→List PV→Mem→Prop} {t:List PV} {m:Mem} {a b:Code} (h:IsJn) (hk:pwp P n0 (.seq a b) Q t m):pwp P n0 (.seq a b) Q t m:=hk
theorem Zmv {K K2:List PV→Mem→Prop} {Q:Exit→List PV→Mem→Prop}:Zf5 K (Zf5 K2 Q)=Zf5 K Q:=by
 funext e t m
 cases e <;> rfl
theorem ZpU {P:Program} {n0:Nat} {Q:Exit→List PV→Mem→Prop} {t:List PV} {m:Mem} {a b c:Code} (h:pwp P n0 (.seq (.seq a b) c) Q t m):pwp P n0 (.seq a (.seq b c)) Q t m:=by
 have e:pwp P n0 (.seq (.seq a b) c) Q t m=pwp P n0 a (Zf5 (fun t m=>pwp P n0 b (Zf5 (fun t m=>pwp P n0 c Q t m) Q) t m) (Zf5 (fun t m=>pwp P n0 c Q t m) Q)) t m:=by simp only [pwp]
 rw [e,Zmv] at h
 simp only [pwp]
 exact h
theorem ZpY {P:Program} {n0:Nat} {Q:Exit→List PV→Mem→Prop} {t:List PV} {m:Mem} {a b c:Code} {ο α β γ:Type} {J:Option (ο ⊕ α)} {T:ο→List PV} {M:ο→Mem} {G:ο→Option β} {F:α→Option β} {K:β→Option γ} {r:γ}
 {i j:Nat} (H:((jn i j J T M).bind (Zp G F)).bind K=some r) (hd:hdC c=true) (hi:(idC a == i && idC c == j)=true)
 (h1:∀ K':List PV→Mem→Prop,(∀ o t' m',(G o).bind K=some r→Cuts n0 t' m' (T o) (M o)→K' t' m')→J.bind (Zp (fun o=>(G o).bind K) (fun v=>(F v).bind K))=some r→pwp P n0 (.seq a b) (Zf5 K' Q) t m)
 (h2:∀ o,(G o).bind K=some r→pwp P n0 c Q (T o) (M o)):pwp P n0 (.seq a (.seq b c)) Q t m:=ZpU (ZpX H hd hi h1 h2)
inductive SubC:PV→PV→Prop
 | r (p:PV):SubC p p
 | nil (c:Nat):SubC (.v (.slice none 0 c)) (.sl [])
 | un (p:PV):SubC p .un
inductive SubL:List PV→List PV→Prop
 | n:SubL [] []
 | c {p q:PV} {ps qs:List PV} (h:SubC p q) (k:SubL ps qs):SubL (p::ps) (q::qs)
inductive SubV:PV→PV→Prop
 | c {p q:PV} (h:SubC p q):SubV p q
 | ag {cs ds:List PV} (h:SubL cs ds):SubV (.ag cs) (.ag ds)
inductive SubA:List PV→List PV→Prop
 | n:SubA [] []
 | c {p q:PV} {ps qs:List PV} (h:SubV p q) (k:SubA ps qs):SubA (p::ps) (q::qs)
theorem SubC.rep {w:World} {E:Env} {p q:PV} {x:Value} (h:SubC p q) (hr:Rep w E p x):Rep w E q x:=by
 cases h with
 | r=>exact hr
 | nil c=>
  cases hr with
  | c h=>cases h with
   | v _ _=>exact .c (.nil none c)
 | un=>exact .c (.un x)
theorem SubL.len {cs ds:List PV} (h:SubL cs ds):cs.length=ds.length:=by
 induction h with
 | n=>rfl
 | c _ _ ih=>simp [ih]
theorem SubL.get {cs ds:List PV} (h:SubL cs ds):∀ (j:Nat) (q:PV),ds[j]?=some q→∃ p,cs[j]?=some p∧SubC p q:=by
 induction h with
 | n=>intro j q hq; simp at hq
 | c h k ih=>
  intro j q hq
  cases j with
  | zero=>simp at hq; subst hq; exact ⟨_,by simp,h⟩
  | succ j=>simpa using ih j q (by simpa using hq)
theorem SubV.rep {w:World} {E:Env} {p q:PV} {x:Value} (h:SubV p q) (hr:Rep w E p x):Rep w E q x:=by
 cases h with
 | c h=>exact h.rep hr
 | ag h=>
  obtain ⟨vs,rfl,hl,h1,hc⟩:=Rep.ag_inv hr
  exact .ag _ vs (by rw [hl,h.len]) h1 fun j p y hp hy=>by
   obtain ⟨p',hp',hs⟩:=h.get j p hp
   exact hs.rep (hc j p' y hp' hy)
theorem SubA.len {cs ds:List PV} (h:SubA cs ds):cs.length=ds.length:=by
 induction h with
 | n=>rfl
 | c _ _ ih=>simp [ih]
theorem SubA.get {cs ds:List PV} (h:SubA cs ds):∀ (j:Nat) (q:PV),ds[j]?=some q→∃ p,cs[j]?=some p∧SubV p q:=by
 induction h with
 | n=>intro j q hq; simp at hq
 | c h k ih=>
  intro j q hq
  cases j with
  | zero=>simp at hq; subst hq; exact ⟨_,by simp,h⟩
  | succ j=>simpa using ih j q (by simpa using hq)
theorem ZdG.weak {P:Program} {f:FuncId} {ps qs:List PV} {m0:Mem} {r:PV} {m1:Mem} (h:ZdG P f qs m0 r m1) (hs:SubA ps qs):ZdG P f ps m0 r m1:=by
 intro S β w vs ω hok hl ha
 refine h S β w vs ω hok (by rw [hl,hs.len]) fun i q hq=>?_
 obtain ⟨p,hp,hv⟩:=hs.get i q hq
 obtain ⟨x,hx,hr⟩:=ha i p hp
 exact ⟨x,hx,hv.rep hr⟩
def isCM:PV→Bool
 | .ms _=>true
 | p=>isC p
def Zt4:PV→Bool
 | .ag cs=>cs.all isCM
 | .tu _=>false
 | p=>isCM p
theorem Znd {p:PV} (h:isCM p=true):ZY false p:=by
 cases p with
 | ms l=>simp [ZY]
 | _=>exact Zgc h
theorem Zna {cs:List PV} (h:cs.all isCM=true):ZeZ false (.ag cs):=fun c hc=>Znd (List.all_eq_true.1 h c hc)
theorem Znb {ps:List PV} (h:ps.all Zt4=true):ZeZ false (.tu ps):=by
 intro c hc
 have:=List.all_eq_true.1 h c hc
 cases c with
 | ag cs=>exact fun d hd=>Znd (List.all_eq_true.1 this d hd)
 | tu vs=>simp [Zt4] at this
 | fn f cs=>exact Zgc (c:=.fn f cs) this
 | _=>simp [ZeY,ZY]
theorem Zij {m m':Mem} {ρ:Nat→Option Nat} {c:Nat}:CutC ρ m m' (.v (.slice none 0 c)) (.sl []):=.nilsl c
theorem ZiS {m m':Mem} {rs rr:List (Option Nat)} {T:TK} {k:Nat} {mm:Mem} (hk:decide (0<k)=true) (h:Z1 rs m m' rr mm):Z1 rs m m' (none::rr) (some ⟨T,k,[]⟩::mm):=⟨⟨rfl,of_decide_eq_true hk⟩,h⟩
theorem Zse {i:Nat} {rs:List (Option Nat)} {m:Mem}:lowB 0 i rs m=true:=rfl
theorem Zsf {n i:Nat} {rs:List (Option Nat)} {mb:MB} {m:Mem} (h:lowB n (i+1) rs m=true):lowB (n+1) i (some i::rs) (some mb::m)=true:=by simp [lowB,h]
theorem Zsg {n i:Nat} {rs:List (Option Nat)} {m:Mem} (h:lowB n (i+1) rs m=true):lowB (n+1) i (none::rs) (none::m)=true:=by simpa [lowB] using h
theorem ZrW {n0:Nat} {t t':List PV} {m:Mem} (hl:lowB n0 0 [] []=true) (hT:cutT (rho []) m [] t t') (hM:Z1 [] m [] [] []) (hi:injB []=true):Cuts n0 t m t' []:=ZcI hT hM hi hl
theorem ZrX {n0:Nat} {t t':List PV} {m:Mem} {a:Option MB} (r0:Option Nat) (hl:lowB n0 0 [r0] [a]=true) (hT:cutT (rho [r0]) m [a] t t') (hM:Z1 [r0] m [a] [r0] [a]) (hi:injB [r0]=true):Cuts n0 t m t' [a]:=ZcI hT hM hi hl
theorem ZrY {n0:Nat} {t t':List PV} {m:Mem} {a b:Option MB} (r0 r1:Option Nat) (hl:lowB n0 0 [r0,r1] [a,b]=true) (hT:cutT (rho [r0,r1]) m [a,b] t t') (hM:Z1 [r0,r1] m [a,b] [r0,r1] [a,b]) (hi:injB [r0,r1]=true):Cuts n0 t m t' [a,b]:=ZcI hT hM hi hl
theorem ZrZ {n0:Nat} {t t':List PV} {m:Mem} {a b c:Option MB} (r0 r1 r2:Option Nat) (hl:lowB n0 0 [r0,r1,r2] [a,b,c]=true) (hT:cutT (rho [r0,r1,r2]) m [a,b,c] t t') (hM:Z1 [r0,r1,r2] m [a,b,c] [r0,r1,r2] [a,b,c]) (hi:injB [r0,r1,r2]=true):Cuts n0 t m t' [a,b,c]:=ZcI hT hM hi hl
theorem Zr0 {n0:Nat} {t t':List PV} {m:Mem} {a b c d:Option MB} (r0 r1 r2 r3:Option Nat) (hl:lowB n0 0 [r0,r1,r2,r3] [a,b,c,d]=true) (hT:cutT (rho [r0,r1,r2,r3]) m [a,b,c,d] t t') (hM:Z1 [r0,r1,r2,r3] m [a,b,c,d] [r0,r1,r2,r3] [a,b,c,d]) (hi:injB [r0,r1,r2,r3]=true):Cuts n0 t m t' [a,b,c,d]:=ZcI hT hM hi hl
theorem Zr1 {n0:Nat} {t t':List PV} {m:Mem} {a b c d e:Option MB} (r0 r1 r2 r3 r4:Option Nat) (hl:lowB n0 0 [r0,r1,r2,r3,r4] [a,b,c,d,e]=true) (hT:cutT (rho [r0,r1,r2,r3,r4]) m [a,b,c,d,e] t t') (hM:Z1 [r0,r1,r2,r3,r4] m [a,b,c,d,e] [r0,r1,r2,r3,r4] [a,b,c,d,e]) (hi:injB [r0,r1,r2,r3,r4]=true):Cuts n0 t m t' [a,b,c,d,e]:=ZcI hT hM hi hl
theorem Zr2 {n0:Nat} {t t':List PV} {m:Mem} {a b c d e f:Option MB} (r0 r1 r2 r3 r4 r5:Option Nat) (hl:lowB n0 0 [r0,r1,r2,r3,r4,r5] [a,b,c,d,e,f]=true) (hT:cutT (rho [r0,r1,r2,r3,r4,r5]) m [a,b,c,d,e,f] t t') (hM:Z1 [r0,r1,r2,r3,r4,r5] m [a,b,c,d,e,f] [r0,r1,r2,r3,r4,r5] [a,b,c,d,e,f]) (hi:injB [r0,r1,r2,r3,r4,r5]=true):Cuts n0 t m t' [a,b,c,d,e,f]:=ZcI hT hM hi hl
theorem Zr3 {n0:Nat} {t t':List PV} {m:Mem} {a b c d e f g:Option MB} (r0 r1 r2 r3 r4 r5 r6:Option Nat) (hl:lowB n0 0 [r0,r1,r2,r3,r4,r5,r6] [a,b,c,d,e,f,g]=true) (hT:cutT (rho [r0,r1,r2,r3,r4,r5,r6]) m [a,b,c,d,e,f,g] t t') (hM:Z1 [r0,r1,r2,r3,r4,r5,r6] m [a,b,c,d,e,f,g] [r0,r1,r2,r3,r4,r5,r6] [a,b,c,d,e,f,g]) (hi:injB [r0,r1,r2,r3,r4,r5,r6]=true):Cuts n0 t m t' [a,b,c,d,e,f,g]:=ZcI hT hM hi hl
theorem Zr4 {n0:Nat} {t t':List PV} {m:Mem} {a b c d e f g h:Option MB} (r0 r1 r2 r3 r4 r5 r6 r7:Option Nat) (hl:lowB n0 0 [r0,r1,r2,r3,r4,r5,r6,r7] [a,b,c,d,e,f,g,h]=true) (hT:cutT (rho [r0,r1,r2,r3,r4,r5,r6,r7]) m [a,b,c,d,e,f,g,h] t t') (hM:Z1 [r0,r1,r2,r3,r4,r5,r6,r7] m [a,b,c,d,e,f,g,h] [r0,r1,r2,r3,r4,r5,r6,r7] [a,b,c,d,e,f,g,h]) (hi:injB [r0,r1,r2,r3,r4,r5,r6,r7]=true):Cuts n0 t m t' [a,b,c,d,e,f,g,h]:=ZcI hT hM hi hl
theorem Zr5 {n0:Nat} {t t':List PV} {m:Mem} {a b c d e f g h i:Option MB} (r0 r1 r2 r3 r4 r5 r6 r7 r8:Option Nat) (hl:lowB n0 0 [r0,r1,r2,r3,r4,r5,r6,r7,r8] [a,b,c,d,e,f,g,h,i]=true) (hT:cutT (rho [r0,r1,r2,r3,r4,r5,r6,r7,r8]) m [a,b,c,d,e,f,g,h,i] t t') (hM:Z1 [r0,r1,r2,r3,r4,r5,r6,r7,r8] m [a,b,c,d,e,f,g,h,i] [r0,r1,r2,r3,r4,r5,r6,r7,r8] [a,b,c,d,e,f,g,h,i]) (hi:injB [r0,r1,r2,r3,r4,r5,r6,r7,r8]=true):Cuts n0 t m t' [a,b,c,d,e,f,g,h,i]:=ZcI hT hM hi hl
theorem ZoX {n0:Nat} {t t':List PV} {m:Mem} {a b c d e f g h i j:Option MB} (r0 r1 r2 r3 r4 r5 r6 r7 r8 r9:Option Nat) (hl:lowB n0 0 [r0,r1,r2,r3,r4,r5,r6,r7,r8,r9] [a,b,c,d,e,f,g,h,i,j]=true) (hT:cutT (rho [r0,r1,r2,r3,r4,r5,r6,r7,r8,r9]) m [a,b,c,d,e,f,g,h,i,j] t t') (hM:Z1 [r0,r1,r2,r3,r4,r5,r6,r7,r8,r9] m [a,b,c,d,e,f,g,h,i,j] [r0,r1,r2,r3,r4,r5,r6,r7,r8,r9] [a,b,c,d,e,f,g,h,i,j]) (hi:injB [r0,r1,r2,r3,r4,r5,r6,r7,r8,r9]=true):Cuts n0 t m t' [a,b,c,d,e,f,g,h,i,j]:=ZcI hT hM hi hl
theorem ZoY {n0:Nat} {t t':List PV} {m:Mem} {a b c d e f g h i j k:Option MB} (r0 r1 r2 r3 r4 r5 r6 r7 r8 r9 r10:Option Nat) (hl:lowB n0 0 [r0,r1,r2,r3,r4,r5,r6,r7,r8,r9,r10] [a,b,c,d,e,f,g,h,i,j,k]=true) (hT:cutT (rho [r0,r1,r2,r3,r4,r5,r6,r7,r8,r9,r10]) m [a,b,c,d,e,f,g,h,i,j,k] t t') (hM:Z1 [r0,r1,r2,r3,r4,r5,r6,r7,r8,r9,r10] m [a,b,c,d,e,f,g,h,i,j,k] [r0,r1,r2,r3,r4,r5,r6,r7,r8,r9,r10] [a,b,c,d,e,f,g,h,i,j,k]) (hi:injB [r0,r1,r2,r3,r4,r5,r6,r7,r8,r9,r10]=true):Cuts n0 t m t' [a,b,c,d,e,f,g,h,i,j,k]:=ZcI hT hM hi hl
theorem ZoZ {n0:Nat} {t t':List PV} {m:Mem} {a b c d e f g h i j k l:Option MB} (r0 r1 r2 r3 r4 r5 r6 r7 r8 r9 r10 r11:Option Nat) (hl:lowB n0 0 [r0,r1,r2,r3,r4,r5,r6,r7,r8,r9,r10,r11] [a,b,c,d,e,f,g,h,i,j,k,l]=true) (hT:cutT (rho [r0,r1,r2,r3,r4,r5,r6,r7,r8,r9,r10,r11]) m [a,b,c,d,e,f,g,h,i,j,k,l] t t') (hM:Z1 [r0,r1,r2,r3,r4,r5,r6,r7,r8,r9,r10,r11] m [a,b,c,d,e,f,g,h,i,j,k,l] [r0,r1,r2,r3,r4,r5,r6,r7,r8,r9,r10,r11] [a,b,c,d,e,f,g,h,i,j,k,l]) (hi:injB [r0,r1,r2,r3,r4,r5,r6,r7,r8,r9,r10,r11]=true):Cuts n0 t m t' [a,b,c,d,e,f,g,h,i,j,k,l]:=ZcI hT hM hi hl
theorem Za5 {b:Bool} {T:TK} {k:Nat} {es:List (List PV)} (h:∀ cs∈es,∀ p∈cs,ZY b p):∀ mb,some mb∈([some ⟨T,k,es⟩]:Mem)→∀ cs∈mb.es,∀ p∈cs,ZY b p:=by
 intro mb hm
 simp only [List.mem_singleton,Option.some.injEq] at hm
 subst hm
 exact h
theorem Zir {m:Mem} {b:Bool} (h2:∀ mb,some mb∈m→∀ cs∈mb.es,∀ p∈cs,ZY b p):∀ mb,some mb∈((none:Option MB)::m)→∀ cs∈mb.es,∀ p∈cs,ZY b p:=by
 intro mb h
 rcases List.mem_cons.1 h with h | h
 ·cases h
 ·exact h2 mb h
theorem hm_e {T:TK} {k:Nat} {b:Bool}:∀ mb,some mb∈([some ⟨T,k,[]⟩]:Mem)→∀ cs∈mb.es,∀ p∈cs,ZY b p:=Za5 (by simp)
theorem ZtE {α β:Type} {K:α→Option β} {r:β} (h:(none:Option α).bind K=some r):False:=by cases h
theorem ZkL {n:Nat} {a b a2 b2:Int} {c c2:ByteArray}:eqT Tryz.prog (n+3) 99 [vi a,vi b,vs c] [vi a2,vi b2,vs c2]=some (decide ((⟨a,b,c⟩:Zd8)=(⟨a2,b2,c2⟩:Zd8))):=by
 simp only [eqT,Tryz.underlying3,Tryz.underlying99,ts99,Tryz.underlying9,Program.fieldsOf,go_sem]
 simp [tc99,tc3,tc9]
 rw [baB]; rfl
@[go_sem] theorem ZtW {a b a2 b2:Int} {c c2:ByteArray} {KR:PV→Prop}:eqK Tryz.prog .eql 99 [vi a,vi b,vs c] [vi a2,vi b2,vs c2] KR=KR (vb (decide ((⟨a,b,c⟩:Zd8)=(⟨a2,b2,c2⟩:Zd8)))):=by unfold eqK; rw [show (10000:Nat)=9997+3 from rfl,ZkL,Tryz.underlying99]; simp only [te99,true_and]
@[go_sem] theorem Zub {a b a2 b2:Int} {c c2:ByteArray} {KR:PV→Prop}:eqK Tryz.prog .neq 99 [vi a,vi b,vs c] [vi a2,vi b2,vs c2] KR=KR (vb (!decide ((⟨a,b,c⟩:Zd8)=(⟨a2,b2,c2⟩:Zd8)))):=by unfold eqK; rw [show (10000:Nat)=9997+3 from rfl,ZkL,Tryz.underlying99]; simp only [te99,true_and]
theorem Zo4 {n:Nat} {a a2:ByteArray} {b b2:ByteArray} {c c2:Int} {d d2:Int} {e e2:Int} {f f2:Int}:eqT Tryz.prog (n+3) 115 [vs a,vs b,vi c,vi d,vi e,vi f] [vs a2,vs b2,vi c2,vi d2,vi e2,vi f2]=some (decide ((⟨a,b,c,d,e,f⟩:YLeg)=(⟨a2,b2,c2,d2,e2,f2⟩:YLeg))):=by
 simp only [eqT,Tryz.underlying3,Tryz.underlying115,Zvc,Tryz.underlying9,Program.fieldsOf,go_sem]
 simp [Zu9,tc3,tc9,baB]
 rfl
@[go_sem] theorem ZuU {a a2:ByteArray} {b b2:ByteArray} {c c2:Int} {d d2:Int} {e e2:Int} {f f2:Int} {KR:PV→Prop}:eqK Tryz.prog .eql 115 [vs a,vs b,vi c,vi d,vi e,vi f] [vs a2,vs b2,vi c2,vi d2,vi e2,vi f2] KR=KR (vb (decide ((⟨a,b,c,d,e,f⟩:YLeg)=(⟨a2,b2,c2,d2,e2,f2⟩:YLeg)))):=by unfold eqK; rw [show (10000:Nat)=9997+3 from rfl,Zo4,Tryz.underlying115]; simp only [Zuu,true_and]
@[go_sem] theorem ZuX {a a2:ByteArray} {b b2:ByteArray} {c c2:Int} {d d2:Int} {e e2:Int} {f f2:Int} {KR:PV→Prop}:eqK Tryz.prog .neq 115 [vs a,vs b,vi c,vi d,vi e,vi f] [vs a2,vs b2,vi c2,vi d2,vi e2,vi f2] KR=KR (vb (!decide ((⟨a,b,c,d,e,f⟩:YLeg)=(⟨a2,b2,c2,d2,e2,f2⟩:YLeg)))):=by unfold eqK; rw [show (10000:Nat)=9997+3 from rfl,Zo4,Tryz.underlying115]; simp only [Zuu,true_and]
theorem Zm6 {n:Nat} {a a2:Int} {b b2:Int} {c c2:Int} {d d2:ByteArray} {e e2:Int} {f f2:Int}:eqT Tryz.prog (n+3) 144 [vi a,vi b,vi c,vs d,vi e,vi f] [vi a2,vi b2,vi c2,vs d2,vi e2,vi f2]=some (decide ((⟨a,b,c,d,⟨e,f⟩⟩:Z2)=(⟨a2,b2,c2,d2,⟨e2,f2⟩⟩:Z2))):=by
 simp only [eqT,Tryz.underlying3,Tryz.underlying144,Zvd,Tryz.underlying104,Zty,Tryz.underlying9,Program.fieldsOf,go_sem]
 simp [Zva,Ztv,tc3,tc9,baB]
 rfl
@[go_sem] theorem ZuF {a a2:Int} {b b2:Int} {c c2:Int} {d d2:ByteArray} {e e2:Int} {f f2:Int} {KR:PV→Prop}:eqK Tryz.prog .eql 144 [vi a,vi b,vi c,vs d,vi e,vi f] [vi a2,vi b2,vi c2,vs d2,vi e2,vi f2] KR=KR (vb (decide ((⟨a,b,c,d,⟨e,f⟩⟩:Z2)=(⟨a2,b2,c2,d2,⟨e2,f2⟩⟩:Z2)))):=by unfold eqK; rw [show (10000:Nat)=9997+3 from rfl,Zm6,Tryz.underlying144]; simp only [Zuv,true_and]
@[go_sem] theorem ZuH {a a2:Int} {b b2:Int} {c c2:Int} {d d2:ByteArray} {e e2:Int} {f f2:Int} {KR:PV→Prop}:eqK Tryz.prog .neq 144 [vi a,vi b,vi c,vs d,vi e,vi f] [vi a2,vi b2,vi c2,vs d2,vi e2,vi f2] KR=KR (vb (!decide ((⟨a,b,c,d,⟨e,f⟩⟩:Z2)=(⟨a2,b2,c2,d2,⟨e2,f2⟩⟩:Z2)))):=by unfold eqK; rw [show (10000:Nat)=9997+3 from rfl,Zm6,Tryz.underlying144]; simp only [Zuv,true_and]
set_option maxRecDepth 4000
theorem ZmX {ρ:Nat→Option Nat} {m m':Mem} {f:FuncId} {cs ds:List PV} (h:cutL ρ m m' cs ds):CutC ρ m m' (.fn f cs) (.fn f ds):=by
 have key:∀ (cs ds:List PV),cutL ρ m m' cs ds→ds.length=cs.length∧∀ (j:Nat) (p r:PV),cs[j]?=some p→ds[j]?=some r→CutC ρ m m' p r:=by
  intro cs
  induction cs with
  | nil=>intro ds h; cases ds with
   | nil=>exact ⟨rfl,by simp⟩
   | cons d ds=>exact h.elim
  | cons c cs ih=>intro ds h; cases ds with
   | nil=>exact h.elim
   | cons d ds=>
    obtain ⟨h1,h2⟩:=h
    obtain ⟨k1,k2⟩:=ih ds h2
    refine ⟨by simp [k1],fun j p r hp hr=>?_⟩
    cases j with
    | zero=>simp at hp hr; subst hp hr; exact h1
    | succ j=>simp at hp hr; exact k2 j p r hp hr
 obtain ⟨a,b⟩:=key cs ds h
 exact .fn f cs ds a b
theorem ZjV {α:Type} {xs:List α} {n:Nat} {y:α} {c:α→List PV} (h:getI xs (n:Int)=some y):(xs.map c)[n]?=some (c y):=by
 unfold getI at h
 rw [if_pos (Int.natCast_nonneg n),Int.toNat_natCast] at h
 rw [List.getElem?_map,h]; rfl
theorem lit3 {a b c i y:Int} (h:getI [a,b,c] i=some y):([[PV.v (.int .i64 a)],[PV.v (.int .i64 b)],[PV.v (.int .i64 c)]]:List (List PV))[i.toNat]?=some [PV.v (.int .i64 y)]:=by
 have:([[PV.v (.int .i64 a)],[PV.v (.int .i64 b)],[PV.v (.int .i64 c)]]:List (List PV))=[a,b,c].map cInt:=rfl
 rw [this]; exact Zgp h
theorem Zrd {a b c y:ByteArray} {i:Int} (h:getI [a,b,c] i=some y):([[PV.v (.string a)],[PV.v (.string b)],[PV.v (.string c)]]:List (List PV))[i.toNat]?=some [PV.v (.string y)]:=by
 have:([[PV.v (.string a)],[PV.v (.string b)],[PV.v (.string c)]]:List (List PV))=[a,b,c].map cStr:=rfl
 rw [this]; exact Zgp h
theorem ZpD {P:Program} {io:Bool} {wd ν:Nat} {f:FuncId} {cs ps:List PV} {m:Mem} {K:PV→Mem→Prop} (h1:∀ c∈cs,isR c=true) (h2:isFn P f) (h3:ZfC P io wd ν f (ps++cs) m K):pDyn P io wd ν (.fn f cs) ps m K:=⟨h1,h2,h3⟩
def ZqK (x:List Int):List PV:=[.sl (x.map cInt)]
instance:ZaO (List Int):=⟨ZqK⟩
instance:ZS ZqK:=⟨fun x q h=>by simp only [ZqK,List.mem_singleton] at h; subst h; rfl⟩
attribute [go_sem] ZqK
theorem xc {p:Prop} (h:p:=by (try simp only [U_s,U_z]); (with_reducible refine cutS ?_); (first | (with_reducible apply ZrW) | (with_reducible apply ZrX) | (with_reducible apply ZrY) | (with_reducible apply ZrZ) | (with_reducible apply Zr0) | (with_reducible apply Zr1) | (with_reducible apply Zr2) | (with_reducible apply Zr3) | (with_reducible apply Zr4) | (with_reducible apply Zr5) | (with_reducible apply ZoX) | (with_reducible apply ZoY) | (with_reducible apply ZoZ)); (repeat' (first       | (with_reducible exact Zse) | (with_reducible refine Zsf ?_) | (with_reducible refine Zsg ?_) | (with_reducible refine Zo0 ?_)       | (with_reducible refine Zr7 ?_ ?_)       | (with_reducible exact Zm3)       | (with_reducible exact Zm4 rfl)       | exact Zm4 rfl       | (with_reducible exact Zm1)       | (with_reducible refine Zr6 ?_ ?_)       | exact .c _ rfl       | exact .un _       | exact ZoT rfl rfl       | exact ZoS rfl rfl       | exact Zij | exact Zjn       | exact Zjm rfl rfl       | (refine ZjN rfl ?_) | (refine ZkI rfl rfl ?_) | (refine ZmY rfl rfl rfl ?_)       | (refine ZmW rfl rfl ?_)       | (with_reducible refine ZmX ?_) | (with_reducible refine Zo1 ?_)       | (with_reducible refine Zo2 ?_)       | (with_reducible exact ZkE)       | (with_reducible refine ZoR ?_ ?_)       | (with_reducible refine ZoQ ?_)       | (with_reducible refine ZrT ?_)       | (with_reducible refine Zr8 ?_)       | (with_reducible exact ZjF)       | (refine ZiR rfl ?_ ?_)       | (refine ZiS rfl ?_) | (refine ZjE rfl ?_)       | (with_reducible refine ZiQ ?_)       | (with_reducible refine ZmT ?_)       | (with_reducible exact ZmS)       | (with_reducible refine ZmV ?_)       | (with_reducible exact ZrV)       | (with_reducible refine ZrU ?_ ?_)       | (with_reducible exact ZgO)       | (with_reducible refine ZhZ ?_)       | exact ZgO       | (refine ZhZ ?_)       | (refine ZmU ?_)       | (refine ZkH ?_)       | (refine ZkG rfl ?_)       | (refine Zjl rfl rfl rfl rfl ?_)       | (refine ZkF ?_ rfl rfl rfl rfl ?_)       | (simp only [cInt,cStr,Zkw,cB8,Zjk,ZfP,Z9,cZone,cRate,cLeg,cNetwork,Zv,Zd,ZK,Zz,ZeG,Zap,cAct,ZeU,Zie,Zic,Zid,Zhd,ZhA,Zhc])       | (with_unfolding_all rfl))); (all_goals first | (exact Zhg rfl) | exact none); (first | done | fail)):p:=h
theorem xf {p:Prop} (h:p:=by (first | exact ZkV | (repeat (first | exact Zgo | exact Zhj | exact hm_e | (refine hm_c Zgo ?_) | (refine hm_c Zhj ?_) | (refine hm_c hm_e ?_) | exact Za5 (by simp [ZY,isR]) | (refine Zir ?_) | (refine hm_c (Za5 (by simp [ZY,isR])) ?_)))); (first | done | fail)):p:=h
theorem xs {p:Prop} (h:p:=by ((refine ZdG.weak (CT.ok hy) ?_); (repeat' (first | exact SubA.n | (refine SubA.c ?_ ?_) | exact SubV.c (SubC.r _) | (refine SubV.ag ?_) | exact SubL.n | (refine SubL.c ?_ ?_) | exact SubC.r _ | exact SubC.nil _ | exact SubC.un _))); (first | done | fail)):p:=h
theorem wk3 {p:Prop} (h:p:=by
 (simp only [List.length_cons,List.length_nil,Nat.reduceAdd,Nat.reduceSub,List.replicate_succ,List.replicate_zero,List.cons_append,List.nil_append,go_sem]);
 repeat' (first
  | ((with_reducible refine ZpD ?_ ?_ ?_); (focus (simp [isR])); (focus (simp only [go_sem])); (simp only [List.cons_append,List.nil_append]))
  | ((with_reducible refine Znw H rfl (by kernel_rfl) ?_); (clear H; intro H; simp only [go_sem,Nat.reduceAdd,Nat.reduceSub,Nat.reduceMul,Nat.reduceLT,Nat.reduceLeDiff,Nat.reduceEqDiff,if_true,eq_self]))
  | ((with_reducible refine Zui (rhoH H) ?_); (refine ZmN H rfl rfl ?_ ?_ ?_ ?_ ?_ ?_ ?_ ?_); (focus (first | rfl | (simp only [CT.args,List.map_cons,List.map_nil,renA,renC,ren1,Zqj,Zqi,Zqh]; done))); (focus (simp [CT.args,CT.m0,ZeY,ZY,lowA,lowC,low1,isR])); (focus (first | exact List.nodup_nil | decide)); (focus ((simp only [CT.m0]); (repeat' (first | exact Zgf | (refine Zge (by rfl) ?_) | (refine Zgg (by rfl) (by rfl) (by simp [ZY,lowC,low1,isR]) ?_))))); (focus (intro y_; simp [CT.mem,CT.m0])); (focus (intro y_; (simp only [CT.mem]); (repeat (first | exact ZkV | exact Zgo | exact Zhj | (refine hm_c Zgo ?_) | (refine hm_c (Za5 (by simp [ZY,isR])) ?_) | exact Za5 (by simp [ZY,isR]) | (refine Zir ?_))))); (focus (intro y_; (simp [CT.res,ZeZ,ZeY,ZY,isR]))); (clear H; intro y_ hy H; simp only [CT.res,CT.mem,Zev,List.drop_succ_cons,List.drop_zero,Option.map_none,go_sem,Nat.reduceAdd,Nat.reduceSub,Nat.reduceMul,Nat.reduceLT,Nat.reduceLeDiff,Nat.reduceEqDiff,if_true,eq_self]))
  | ((with_reducible refine jnS (jnH H) ?_); (first | ((refine ZpY H ?_ ?_ (fun K_ hL H=>?_) (fun o_ H=>?_)); (focus (decide +kernel)); (focus (decide +kernel))) | ((refine ZpX H ?_ ?_ (fun K_ hL H=>?_) (fun o_ H=>?_)); (focus (decide +kernel)); (focus (decide +kernel)))))
  | ((with_reducible refine rhoS (rhoH H) ?_); (refine ZoF H rfl rfl rfl ?_ ?_ ?_ ?_ ?_ ?_ ?_ ?_); (focus (first | rfl | (simp only [CT.args,List.map_cons,List.map_nil,renA,renC,ren1,Zqj,Zqi,Zqh]; done))); (focus (simp [CT.args,CT.m0,ZeY,ZY,lowA,lowC,low1,isR])); (focus (first | exact List.nodup_nil | decide)); (focus ((simp only [CT.m0]); (repeat' (first | exact Zgf | (refine Zge (by rfl) ?_) | (refine Zgg (by rfl) (by rfl) (by simp [ZY,lowC,low1,isR]) ?_))))); (focus (intro y_; simp [CT.mem,CT.m0])); (focus (intro y_; (simp only [CT.mem]); (repeat (first | exact ZkV | exact Zgo | exact Zhj | (refine hm_c Zgo ?_) | (refine hm_c (Za5 (by simp [ZY,isR])) ?_) | exact Za5 (by simp [ZY,isR]) | (refine Zir ?_))))); (focus (intro y_; (simp [CT.res,ZeZ,ZeY,ZY,isR]))); (clear H; intro y_ hy H; simp only [CT.res,CT.mem,Zev,List.drop_succ_cons,List.drop_zero,Option.map_none,go_sem,Nat.reduceAdd,Nat.reduceSub,Nat.reduceMul,Nat.reduceLT,Nat.reduceLeDiff,Nat.reduceEqDiff,if_true,eq_self]))
  | ((with_reducible refine Zny H ?_ ?_); (focus (exact xc)); (clear H; intro z_ H))
  | ((with_reducible refine ZpW H ?_ ?_); (focus (exact xc)); (clear H; intro H))
  | ((with_reducible refine Zp0 ?_); intro K_ hK)
  | ((with_reducible refine Zlm ?_))
  | ((with_reducible refine ZjB ?_); simp only [go_sem,Nat.reduceAdd,Nat.reduceSub,Nat.reduceMul,Nat.reduceLT,Nat.reduceLeDiff,Nat.reduceEqDiff,if_true,eq_self])
  | ((with_reducible refine Znz ?_); (try simp only [Zdr,Zcx]))
  | ((with_reducible refine Znx ?_); (simp only [Zhx,Zgu,Zdr,Zcx,if_true,if_false,eq_self,Nat.reduceEqDiff,Nat.one_ne_zero,Nat.zero_ne_one]); (try simp only [bexR,bsr,bsl] at H))
  | ((with_reducible refine ZpZ ?_); (try simp only [Zi0,Zhb]))
  | ((with_reducible refine hQ _ _ ?_); (try simp only [bexR,bsr,bsl] at H); replace H:=Hret H; subst H; simp only [Fin,resP,oneP,go_sem,Nat.reduceAdd,Nat.reduceSub,Nat.reduceMul,Nat.reduceLT,Nat.reduceLeDiff,Nat.reduceEqDiff,if_true,eq_self]; exact xc)
  | ((with_reducible refine hQn _ _ ?_); (try simp only [bexR,bsr,bsl] at H); replace H:=Hret H; subst H; simp only [Fin,resP,oneP,go_sem,Nat.reduceAdd,Nat.reduceSub,Nat.reduceMul,Nat.reduceLT,Nat.reduceLeDiff,Nat.reduceEqDiff,if_true,eq_self]; exact xc)
  | ((with_reducible refine ZtY ?_); (refine Zin (fun hg=>Hc1k H hg ?_) (fun hg=>Hc2k H hg ?_)) <;> (clear H; intro H; simp only [go_sem,Nat.reduceAdd,Nat.reduceSub,Nat.reduceMul,Nat.reduceLT,Nat.reduceLeDiff,Nat.reduceEqDiff,if_true,eq_self]))
  | ((with_reducible refine Zln ?_); simp only [ZlS,Zpe,Zpd,ZjQ]; (first | (with_reducible refine ZmQ ?_) | (with_reducible refine ZmP ?_) | ((refine Zii (fun hg=>Hc1k H hg ?_) (fun hg=>Hc2k H hg ?_)) <;> (clear H; intro H))))
  | ((with_reducible refine idxS ?_); replace H:=Zia H; obtain ⟨y_,hy,H⟩:=H; (with_reducible apply Zsd hy); (focus (first | (simp only [go_sem]; done) | (simp only [go_sem]; decide))); (focus (first | rfl | (simp only [go_sem]; rfl))); simp only [go_sem,Nat.reduceAdd,Nat.reduceSub,Nat.reduceMul,Nat.reduceLT,Nat.reduceLeDiff,Nat.reduceEqDiff,if_true,eq_self])
  | ((with_reducible refine idxM ?_); replace H:=Zia H; obtain ⟨y_,hy,H⟩:=H; (first | (refine Zph hy (by rfl) (by first | (simp only [go_sem]; done) | (simp only [go_sem]; decide)) (by first | rfl | (simp only [go_sem]; rfl)) ?_) | (refine Zng hy (by rfl) (by first | (simp only [go_sem]; done) | (simp only [go_sem]; decide)) (by first | rfl | (simp only [go_sem]; rfl)) ?_)); simp only [go_sem,Nat.reduceAdd,Nat.reduceSub,Nat.reduceMul,Nat.reduceLT,Nat.reduceLeDiff,Nat.reduceEqDiff,if_true,eq_self])
  | ((with_reducible refine idxB ?_); replace H:=Zia H; obtain ⟨y_,hy,H⟩:=H; (with_reducible apply Zpi hy); (focus (simp only [go_sem])); simp only [go_sem,Nat.reduceAdd,Nat.reduceSub,Nat.reduceMul,Nat.reduceLT,Nat.reduceLeDiff,Nat.reduceEqDiff,if_true,eq_self])
  | ((with_reducible refine ZtL ?_); replace H:=Zia H; obtain ⟨y_,hy,H⟩:=H; (first | ((with_reducible apply ZgM); (focus (exact CT.ok hy)); (focus (simp [isCA,isC,isC1])); (focus (exact Nat.le_of_ble_eq_true rfl)); (focus (exact xf)); (focus (first | exact Zq1 rfl | exact Zq2 rfl | exact Zna rfl | exact Znb rfl | exact (fun h=>(by cases h)) | (simp [CT.res,ZeZ,ZeY,ZY,isR]))); (simp only [CT.res,CT.mem,go_sem,Nat.reduceAdd,Nat.reduceSub,Nat.reduceMul,Nat.reduceLT,Nat.reduceLeDiff,Nat.reduceEqDiff,if_true,eq_self])) | ((with_reducible apply ZgM); (focus (exact xs)); (focus (simp [isCA,isC,isC1])); (focus (exact Nat.le_of_ble_eq_true rfl)); (focus (exact xf)); (focus (first | exact Zq1 rfl | exact Zq2 rfl | exact Zna rfl | exact Znb rfl | exact (fun h=>(by cases h)) | (simp [CT.res,ZeZ,ZeY,ZY,isR]))); (simp only [CT.res,CT.mem,go_sem,Nat.reduceAdd,Nat.reduceSub,Nat.reduceMul,Nat.reduceLT,Nat.reduceLeDiff,Nat.reduceEqDiff,if_true,eq_self])) | ((with_reducible apply Zkx); (focus (first | (simp only [Zhw,ZhX,Zg6,ZhW,Ze8,ZiB,ZiA,ZfM,Zfo,Zft,List.forall_mem_nil,true_and,and_true,if_true]; (first | exact CT.ok hy | (simp only [all_nil,all_cons,isC,isC1,true_and,and_true,if_true]; exact CT.ok hy))) | (simp only [Zhw,ZhX,Zg6,ZhW,Ze8,ZiB,ZiA,ZfM,Zfo,Zft,List.forall_mem_nil,true_and,and_true,if_true]; (first | (exact xs) | (simp only [all_nil,all_cons,isC,isC1,true_and,and_true,if_true]; (exact xs)))) | (simp only [Zhw,ZhX,Zg6,ZhW,Ze8,ZiB,ZiA,ZfM,Zfo,Zft,List.forall_mem_nil,true_and,and_true,if_true]; (exact xs)))); (focus (exact Nat.le_of_ble_eq_true rfl)); (focus (exact xf)); (focus (first | exact Zsc rfl | exact (fun _=>rfl) | (simp [CT.res,ZeZ,ZeY,ZY,isF]))); (simp only [CT.res,CT.mem,go_sem,Nat.reduceAdd,Nat.reduceSub,Nat.reduceMul,Nat.reduceLT,Nat.reduceLeDiff,Nat.reduceEqDiff,if_true,eq_self]))))
  | ((with_reducible refine slcS ?_); replace H:=Hchk H; obtain ⟨hc,H⟩:=H; (first | ((with_reducible apply ZnF hc); (focus rfl); (focus rfl); (focus (first | (simp only [go_sem]; done) | (simp only [go_sem]; decide))); (focus (first | rfl | (intro x_; rfl))); simp only [go_sem,Nat.reduceAdd,Nat.reduceSub,Nat.reduceMul,Nat.reduceLT,Nat.reduceLeDiff,Nat.reduceEqDiff,if_true,eq_self]) | ((refine Zls hc (by rfl) (by rfl) (by rfl) (by first | (simp only [go_sem]; done) | (simp only [go_sem]; decide)) (by first | rfl | (simp only [go_sem]; rfl)) ?_); simp only [go_sem,Nat.reduceAdd,Nat.reduceSub,Nat.reduceMul,Nat.reduceLT,Nat.reduceLeDiff,Nat.reduceEqDiff,if_true,eq_self]) | ((with_reducible apply Zlt hc); (focus rfl); (focus rfl); (focus (simp only [go_sem])); simp only [go_sem,Nat.reduceAdd,Nat.reduceSub,Nat.reduceMul,Nat.reduceLT,Nat.reduceLeDiff,Nat.reduceEqDiff,if_true,eq_self])))
  | ((with_reducible refine appS ?_); replace H:=Hchk H; obtain ⟨hc,H⟩:=H; (first | (refine ZoD hc (by first | (simp only [go_sem]; done) | (simp only [go_sem]; rfl)) (by first | (simp only [go_sem]; done) | (simp only [go_sem]; rfl)) (by first | (simp only [go_sem]; done) | (simp only [go_sem]; rfl)) (by first | (simp only [go_sem]; done) | (simp only [go_sem]; rfl)) (by rfl) (by first | rfl | exact Zkk (by rfl) (by rfl) (by rfl)) rfl rfl (by intro x_; rfl) rfl ?_) | (refine ZoE hc (by first | (simp only [go_sem]; done) | (simp only [go_sem]; rfl)) (by first | (simp only [go_sem]; done) | (simp only [go_sem]; rfl)) (by first | (simp only [go_sem]; done) | (simp only [go_sem]; rfl)) (by first | (simp only [go_sem]; done) | (simp only [go_sem]; rfl)) (by first | rfl | exact Zkk (by rfl) (by rfl) (by rfl)) rfl rfl (by intro x_; rfl) ?_) | (refine ZoC hc rfl (by first | (simp only [go_sem]; done) | (simp only [go_sem]; rfl)) (by first | (simp only [go_sem]; done) | (simp only [go_sem]; rfl)) (by first | (simp only [go_sem]; done) | (simp only [go_sem]; rfl)) (by first | (simp only [go_sem]; done) | (simp only [go_sem]; rfl)) (by rfl) (by rfl) (by rfl) (by rfl) rfl rfl (by rfl) ?_)); simp only [go_sem,Nat.reduceAdd,Nat.reduceSub,Nat.reduceMul,Nat.reduceLT,Nat.reduceLeDiff,Nat.reduceEqDiff,if_true,eq_self])
  | ((with_reducible refine mkS ?_); replace H:=Hchk H; obtain ⟨hc,H⟩:=H; (refine Zsh hc (by first | (simp only [go_sem]; done) | (simp only [go_sem]; rfl)) (by first | (simp only [go_sem]; done) | (simp only [go_sem]; rfl)) (by first | (simp only [go_sem]; done) | (simp only [go_sem]; rfl)) (by first | (simp only [go_sem]; done) | (simp only [go_sem]; rfl)) rfl rfl ?_); simp only [go_sem,Nat.reduceAdd,Nat.reduceSub,Nat.reduceMul,Nat.reduceLT,Nat.reduceLeDiff,Nat.reduceEqDiff,if_true,eq_self])
  | ((with_reducible refine optS ?_); (first | (with_reducible refine ZhH (by decide) ?_) | (replace H:=Hchk H; obtain ⟨hc,H⟩:=H; (first | (refine ZhH hc ?_) | (refine ZhH (of_decide_eq_true hc) ?_) | (refine ZhH ⟨rfl,of_decide_eq_true hc⟩ ?_)))); simp only [go_sem,Nat.reduceAdd,Nat.reduceSub,Nat.reduceMul,Nat.reduceLT,Nat.reduceLeDiff,Nat.reduceEqDiff,if_true,eq_self])
  | ((with_reducible refine Zt6 ?_); (refine Zlo (Hlp H) ?_ ?_); (focus (simp only [Zo.T,Zo.M,U_s,U_z]; exact xc)); (clear H; intro n_ s_ H K_ hL; replace H:=Hrd H; simp only [Zo.T,Zo.M,U_s,U_z]))
  | ((with_reducible refine Znv (by kernel_rfl) ?_); simp only [go_sem,Nat.reduceAdd,Nat.reduceSub,Nat.reduceMul,Nat.reduceLT,Nat.reduceLeDiff,Nat.reduceEqDiff,if_true,eq_self])
  | ((with_reducible refine Zjo (by kernel_rfl) ?_); (try simp only [Zdr,Zcx]))
  | ((with_reducible refine hK _ _ ?_); clear hK)
  | (clear hK; (with_reducible refine hK _ _ ?_); clear hK)
  | (clear hK; clear hK; (with_reducible refine hK _ _ ?_); clear hK)
  | (clear hK; clear hK; clear hK; (with_reducible refine hK _ _ ?_); clear hK)
  | (clear hK; clear hK; clear hK; clear hK; (with_reducible refine hK _ _ ?_); clear hK)
  | (clear hK; clear hK; clear hK; clear hK; clear hK; (with_reducible refine hK _ _ ?_); clear hK)
  | ((with_reducible refine And.intro ?_ ?_); omega)
  | (simp only [Zl5,Zl3,Zl4,ZlJ]; simp only [go_sem,Nat.reduceAdd,Nat.reduceSub,Nat.reduceMul,Nat.reduceLT,Nat.reduceLeDiff,Nat.reduceEqDiff,if_true,eq_self])
  | ((first | simp only [lit3 hy,Option.map_some,List.drop_zero,go_sem] | simp only [Zrd hy,Option.map_some,List.drop_zero,go_sem] | simp only [ZjV hy,Zgp hy,ZhD hy,go_sem,Nat.reduceAdd,Nat.reduceSub,Nat.reduceMul,Nat.reduceLT,Nat.reduceLeDiff,Nat.reduceEqDiff,if_true,eq_self] | simp only [Zgp hy,ZhD hy,go_sem,Nat.reduceAdd,Nat.reduceSub,Nat.reduceMul,Nat.reduceLT,Nat.reduceLeDiff,Nat.reduceEqDiff,if_true,eq_self]))
  | ((with_reducible replace H:=HexL H); (with_reducible refine hL _ _ _ H ?_); (try simp only [Zo.T,Zo.M,U_s,U_z]); exact xc)
  | ((with_reducible replace H:=HexL H); clear hL; (with_reducible refine hL _ _ _ H ?_); (try simp only [Zo.T,Zo.M,U_s,U_z]); exact xc)
  | ((with_reducible refine jnX H hL ?_); exact xc)
  | (with_reducible exact (ZtE H).elim)
  | ((with_reducible replace H:=rgH H); obtain ⟨y_,hy,H⟩:=H; (first | simp only [lit3 hy,Option.map_some,List.drop_zero,go_sem] | simp only [Zrd hy,Option.map_some,List.drop_zero,go_sem] | simp only [ZjV hy,Zgp hy,ZhD hy,go_sem,Nat.reduceAdd,Nat.reduceSub,Nat.reduceMul,Nat.reduceLT,Nat.reduceLeDiff,Nat.reduceEqDiff,if_true,eq_self] | simp only [Zgp hy,ZhD hy,go_sem,Nat.reduceAdd,Nat.reduceSub,Nat.reduceMul,Nat.reduceLT,Nat.reduceLeDiff,Nat.reduceEqDiff,if_true,eq_self])))):p:=h
set_option maxHeartbeats 16000000
def ZA (s:ByteArray) (s0:Int):Option (Int ⊕ (Unit ⊕ Bool)):=
 cond (decide (s0<(s.size:Int)))
 ((getB s s0).bind fun y1=>
 cond (decide (y1<65))
 (some (.inr (.inr false)))
 ((getB s s0).bind fun y2=>
 cond (decide (90<y2))
 (some (.inr (.inr false)))
 (some (.inl (w64 (s0+1))))))
 (some (.inr (.inl ())))
instance (s:ByteArray):Zo (ZA s):=⟨fun s0=>(vs s::.un::.un::vi s0::(U 19 [])),fun s0=>[]⟩
def ZF (s:ByteArray):Option Bool:=
 (Zc (ZA s) NN 0).bind (Zp (fun o0=>
 some (decide ((s.size:Int)=3))) (fun r=>some r))
instance (s:ByteArray):CT Tryz.prog (ZF s):=⟨122,[vs s],[],fun r=>vb r,fun r=>[],fun H=>by replace H:=H0 H; unfold ZF at H; exact Za Tryz.func122 rfl Tryz.ntmps122 Tryz.results122 fun Q hQ hQn=>wk3⟩
def Zl (x:Int) (least:Int) (most:Int):Option Bool:=
 cond (decide (least≤x))
 (some (decide (x≤most)))
 (some false)
instance (x:Int) (least:Int) (most:Int):CT Tryz.prog (Zl x least most):=⟨101,[vi x,vi least,vi most],[],fun r=>vb r,fun r=>[],fun H=>by replace H:=H0 H; unfold Zl at H; exact Za Tryz.func101 rfl Tryz.ntmps101 Tryz.results101 fun Q hQ hQn=>wk3⟩
def ZdA (s:ByteArray) (s0:Int):Option (Int ⊕ (Unit ⊕ Bool)):=
 cond (decide (s0<3))
 ((getB s s0).bind fun y1=>
 (Zl (IntKind.i64.wrap y1) 65 90).bind fun y2=>
 cond (!y2)
 (some (.inr (.inr false)))
 (some (.inl (w64 (s0+1)))))
 (some (.inr (.inl ())))
instance (s:ByteArray):Zo (ZdA s):=⟨fun s0=>(vs s::.un::.un::vi s0::(U 13 [])),fun s0=>[]⟩
def Zw (s:ByteArray):Option Bool:=
 cond (!decide ((s.size:Int)=3))
 (some false)
 ((Zc (ZdA s) NN 0).bind (Zp (fun o0=>
 some true) (fun r=>some r)))
instance (s:ByteArray):CT Tryz.prog (Zw s):=⟨106,[vs s],[],fun r=>vb r,fun r=>[],fun H=>by replace H:=H0 H; unfold Zw at H; exact Za Tryz.func106 rfl Tryz.ntmps106 Tryz.results106 fun Q hQ hQn=>wk3⟩
def Ze (n:Int) (low:Int) (high:Int):Option Bool:=
 cond (decide (low≤n))
 (some (decide (n≤high)))
 (some false)
instance (n:Int) (low:Int) (high:Int):CT Tryz.prog (Ze n low high):=⟨114,[vi n,vi low,vi high],[],fun r=>vb r,fun r=>[],fun H=>by replace H:=H0 H; unfold Ze at H; exact Za Tryz.func114 rfl Tryz.ntmps114 Tryz.results114 fun Q hQ hQn=>wk3⟩
end Go.Proofs.YtkcnllbmpbhndaaGreat
