/- A part of the proof of the statement in the last file of this claim: texts on the language of the program and on its functions. No condition. -/
import Derived.Test.YtgdcengoopjplaaDoorCStatement3
import Derived.IntWalk
import Derived.Test.YtgdcengoopjplaaDoorProg
import Derived.Test.YtgdcengoopjplaaDoorCStatement1
import Derived.Laws.BytesArg
import Derived.Lib.ItoaLen
import Derived.Shelf.Strings.Builder1
import Derived.Shelf.Strings.Builder2
import Derived.Shelf.Small.Bits
import Derived.Shelf.Strings.BuilderF
import Derived.Shelf.Strings.BuilderK
import Derived.Shelf.Strings.Builder2Cap
import Derived.Shelf.Strconv.Itoa0
import Derived.Shelf.Strconv.Itoa1
import Derived.Shelf.LaysM
import Derived.Shelf.Strconv.Itoa2
import Derived.Shelf.Strconv.Itoa3
import Derived.Shelf.Sort.Plain
import Derived.Shelf.Strings.Prefix
import Derived.Shelf.Bits.Mul64
import Derived.Shelf.Strings.Repeat
import Derived.Ground.Names2Prog
import Derived.Shelf.Slices.SearchI
import Derived.Shelf.Slices.In.SortNone
import Derived.Shelf.Slices.In.SortNone2
import Derived.Sort.Grow
import Derived.Deep.QuietTactic
import Derived.BigQuiet
import Derived.Deep.DeepCutAuto
import Derived.StillTailTactics
import Derived.Deep.RegionHeld3
namespace Go.Proofs.YtgdcengoopjplaaDoor
set_option maxRecDepth 10000
open Go.RowKit
set_option linter.unusedVariables false
set_option linter.unusedSimpArgs false
/-! What the rewriting need not go into. -/
@[congr] theorem cg_pops {P : Program} {ops : Array Oper} {K : List PV → Mem → Prop} {rest : List Oper} {t : List PV} {t' : List PV} {m : Mem} {m' : Mem} (h_t : t = t') (h_m : m = m') : pops P ops K rest t m = pops P ops K rest t' m' := by subst h_t h_m; rfl
@[congr] theorem cg_popsD {P : Program} {wd : Nat} {base : Nat} {fl : List Nat} {ops : Array Oper} {KD : List LE → List PV → Mem → Prop} {i : Nat} {rest : List Oper} {g : List LE} {g' : List LE} {t : List PV} {t' : List PV} {m : Mem} {m' : Mem} (h_t : t = t') (h_m : m = m') (h_g : g = g') : popsD P wd base fl ops KD i rest g t m = popsD P wd base fl ops KD i rest g' t' m' := by subst h_t h_m h_g; rfl
@[congr] theorem cg_nxt {P : Program} {ops : Array Oper} {K : List PV → Mem → Prop} {rest : List Oper} {t : List PV} {t' : List PV} {d : Option Tmp} {p : PV} {p' : PV} {m : Mem} {m' : Mem} (h_t : t = t') (h_p : p = p') (h_m : m = m') : nxt P ops K rest t d p m = nxt P ops K rest t' d p' m' := by subst h_t h_p h_m; rfl
@[congr] theorem cg_nxd {P : Program} {wd : Nat} {base : Nat} {fl : List Nat} {ops : Array Oper} {KD : List LE → List PV → Mem → Prop} {i : Nat} {rest : List Oper} {g : List LE} {g' : List LE} {t : List PV} {t' : List PV} {d : Option Tmp} {p : PV} {p' : PV} {m : Mem} {m' : Mem} (h_t : t = t') (h_p : p = p') (h_m : m = m') (h_g : g = g') : nxd P wd base fl ops KD i rest g t d p m = nxd P wd base fl ops KD i rest g' t' d p' m' := by subst h_t h_p h_m h_g; rfl
@[congr] theorem cg_rgo {P : Program} {ops : Array Oper} {K : List PV → Mem → Prop} {rest : List Oper} {d : Option Tmp} {o : Op} {m : Mem} {m' : Mem} {t : List PV} {t' : List PV} (h_m : m = m') (h_t : t = t') : rgo P ops K rest d o m t = rgo P ops K rest d o m' t' := by subst h_m h_t; rfl
@[congr] theorem cg_pgo {P : Program} {ops : Array Oper} {K : List PV → Mem → Prop} {rest : List Oper} {d : Option Tmp} {m : Mem} {m' : Mem} {t : List PV} {t' : List PV} (h_m : m = m') (h_t : t = t') : pgo P ops K rest d m t = pgo P ops K rest d m' t' := by subst h_m h_t; rfl
@[congr] theorem cg_rge {P : Program} {wd : Nat} {base : Nat} {fl : List Nat} {ops : Array Oper} {KD : List LE → List PV → Mem → Prop} {i : Nat} {rest : List Oper} {g : List LE} {oo : Oper} {m : Mem} {m' : Mem} {t : List PV} {t' : List PV} (h_m : m = m') (h_t : t = t') : rge P wd base fl ops KD i rest g oo m t = rge P wd base fl ops KD i rest g oo m' t' := by subst h_m h_t; rfl
@[congr] theorem cg_nxe {P : Program} {wd : Nat} {base : Nat} {fl : List Nat} {ops : Array Oper} {KD : List LE → List PV → Mem → Prop} {i : Nat} {rest : List Oper} {g : List LE} {oo : Oper} {ν ν' : Nat} {t t' : List PV} {ρ : List Nat} {p p' : PV} {m m' : Mem} (h_t : t = t') (h_p : p = p') (h_m : m = m') (h_n : ν = ν') : nxe P wd base fl ops KD i rest g oo ν t ρ p m = nxe P wd base fl ops KD i rest g oo ν' t' ρ p' m' := by subst h_t h_p h_m h_n; rfl
@[congr] theorem cg_popI {P : Program} {wd ν ν' : Nat} {o : Op} {t t' : List PV} {m m' : Mem} {K : List Nat → PV → Mem → Prop} (h_n : ν = ν') (h_t : t = t') (h_m : m = m') : popI P wd ν o t m K = popI P wd ν' o t' m' K := by subst h_n h_t h_m; rfl
@[congr] theorem cg_pIO {P : Program} {wd ν ν' : Nat} {f : FuncId} {ps ps' : List PV} {m m' : Mem} {K : List Nat → PV → Mem → Prop} (h_n : ν = ν') (h_p : ps = ps') (h_m : m = m') : pIO P wd ν f ps m K = pIO P wd ν' f ps' m' K := by subst h_n h_p h_m; rfl
@[congr] theorem cg_rgd {P : Program} {wd : Nat} {base : Nat} {fl : List Nat} {ops : Array Oper} {KD : List LE → List PV → Mem → Prop} {i : Nat} {rest : List Oper} {g : List LE} {oo : Oper} {m : Mem} {m' : Mem} {t : List PV} {t' : List PV} (h_m : m = m') (h_t : t = t') : rgd P wd base fl ops KD i rest g oo m t = rgd P wd base fl ops KD i rest g oo m' t' := by subst h_m h_t; rfl
@[congr] theorem cg_pgd {P : Program} {wd : Nat} {base : Nat} {fl : List Nat} {ops : Array Oper} {KD : List LE → List PV → Mem → Prop} {i : Nat} {rest : List Oper} {g : List LE} {oo : Oper} {m : Mem} {m' : Mem} {t : List PV} {t' : List PV} (h_m : m = m') (h_t : t = t') : pgd P wd base fl ops KD i rest g oo m t = pgd P wd base fl ops KD i rest g oo m' t' := by subst h_m h_t; rfl
@[congr] theorem cg_gate2 {b : Bool} {b' : Bool} {y : List PV → Prop} {n : List PV → Prop} {t : List PV} {t' : List PV} {i : Nat} (h_b : b = b') (h_t : t = t') : gate2 b y n t i = gate2 b' y n t' i := by subst h_b h_t; rfl
@[congr] theorem cg_gdV {p : PV} {p' : PV} {i : Nat} {t : List PV} {t' : List PV} {b : Bool} {y : List PV → Prop} {n : List PV → Prop} (h_p : p = p') (h_t : t = t') : gdV p i t b y n = gdV p' i t' b y n := by subst h_p h_t; rfl
@[congr] theorem cg_gd {d : Option Tmp} {t : List PV} {t' : List PV} {b : Bool} {y : List PV → Prop} {n : List PV → Prop} (h_t : t = t') : gd d t b y n = gd d t' b y n := by subst h_t; rfl
@[congr] theorem cg_pLoad {P : Program} {T : TypeId} {cs : Option (List PV)} {cs' : Option (List PV)} {K : PV → Prop} (h_cs : cs = cs') : pLoad P T cs K = pLoad P T cs' K := by subst h_cs; rfl
@[congr] theorem cg_pBin {P : Program} {op : BinOp} {T : TypeId} {x : PV} {x' : PV} {y : PV} {y' : PV} {K : PV → Prop} (h_x : x = x') (h_y : y = y') : pBin P op T x y K = pBin P op T x' y' K := by subst h_x h_y; rfl
@[congr] theorem cg_pUn {op : UnOp} {x : PV} {x' : PV} {K : PV → Prop} (h_x : x = x') : pUn op x K = pUn op x' K := by subst h_x; rfl
@[congr] theorem cg_pConvM {P : Program} {m : Mem} {m' : Mem} {T : TypeId} {U : TypeId} {x : PV} {x' : PV} {K : PV → Prop} (h_m : m = m') (h_x : x = x') : pConvM P m T U x K = pConvM P m' T U x' K := by subst h_m h_x; rfl
@[congr] theorem cg_pSlice {P : Program} {m : Mem} {m' : Mem} {T : TypeId} {x : PV} {x' : PV} {lo : Option PV} {lo' : Option PV} {hi : Option PV} {hi' : Option PV} {K : PV → Prop} (h_m : m = m') (h_x : x = x') (h_lo : lo = lo') (h_hi : hi = hi') : pSlice P m T x lo hi K = pSlice P m' T x' lo' hi' K := by subst h_m h_x h_lo h_hi; rfl
@[congr] theorem cg_pFieldAddr {P : Program} {m : Mem} {m' : Mem} {T : TypeId} {x : PV} {x' : PV} {i : Nat} {K : PV → Prop} (h_m : m = m') (h_x : x = x') : pFieldAddr P m T x i K = pFieldAddr P m' T x' i K := by subst h_m h_x; rfl
@[congr] theorem cg_pField {P : Program} {T : TypeId} {x : PV} {x' : PV} {i : Nat} {K : PV → Prop} (h_x : x = x') : pField P T x i K = pField P T x' i K := by subst h_x; rfl
@[congr] theorem cg_pIndexAddr {P : Program} {m : Mem} {m' : Mem} {T : TypeId} {x : PV} {x' : PV} {y : PV} {y' : PV} {K : PV → Prop} (h_m : m = m') (h_x : x = x') (h_y : y = y') : pIndexAddr P m T x y K = pIndexAddr P m' T x' y' K := by subst h_m h_x h_y; rfl
@[congr] theorem cg_pIndex {P : Program} {T : TypeId} {x : PV} {x' : PV} {y : PV} {y' : PV} {K : PV → Prop} (h_x : x = x') (h_y : y = y') : pIndex P T x y K = pIndex P T x' y' K := by subst h_x h_y; rfl
@[congr] theorem cg_pExt {i : Nat} {x : PV} {x' : PV} {K : PV → Prop} (h_x : x = x') : pExt i x K = pExt i x' K := by subst h_x; rfl
@[congr] theorem cg_pBuild {P : Program} {T : TypeId} {ps : List (Nat × PV)} {ps' : List (Nat × PV)} {K : PV → Prop} (h_ps : ps = ps') : pBuild P T ps K = pBuild P T ps' K := by subst h_ps; rfl
@[congr] theorem cg_pLen {P : Program} {m : Mem} {m' : Mem} {T : TypeId} {x : PV} {x' : PV} {K : PV → Prop} (h_m : m = m') (h_x : x = x') : pLen P m T x K = pLen P m' T x' K := by subst h_m h_x; rfl
@[congr] theorem cg_pMinMax {b : Bool} {ps : List PV} {ps' : List PV} {K : PV → Prop} (h_ps : ps = ps') : pMinMax b ps K = pMinMax b ps' K := by subst h_ps; rfl
@[congr] theorem cg_optK {ov : Option Value} {ov' : Option Value} {K : PV → Prop} (h_ov : ov = ov') : optK ov K = optK ov' K := by subst h_ov; rfl
@[congr] theorem cg_eqK {P : Program} {op : BinOp} {T : TypeId} {cs : List PV} {cs' : List PV} {ds : List PV} {ds' : List PV} {K : PV → Prop} (h_cs : cs = cs') (h_ds : ds = ds') : eqK P op T cs ds K = eqK P op T cs' ds' K := by subst h_cs h_ds; rfl
@[congr] theorem cg_pNil {m : Mem} {m' : Mem} {x : PV} {x' : PV} {K : PV → Prop} (h_m : m = m') (h_x : x = x') : pNil m x K = pNil m' x' K := by subst h_m h_x; rfl
@[congr] theorem cg_pPick {x : PV} {x' : PV} {y : PV} {y' : PV} {z : PV} {z' : PV} {K : PV → Prop} (h_x : x = x') (h_y : y = y') (h_z : z = z') : pPick x y z K = pPick x' y' z' K := by subst h_x h_y h_z; rfl
@[congr] theorem cg_pCall {P : Program} {io : Bool} {wd : Nat} {nu : Nat} {nu' : Nat} {f : FuncId} {ps : List PV} {ps' : List PV} {m : Mem} {m' : Mem} {KA : PV → Mem → Prop} (h_ps : ps = ps') (h_m : m = m') (h_nu : nu = nu') : pCall P io wd nu f ps m KA = pCall P io wd nu' f ps' m' KA := by subst h_ps h_m h_nu; rfl
@[congr] theorem cg_pBox {nu : Nat} {nu' : Nat} {m : Mem} {m' : Mem} {T : TypeId} {ocs : Option (List PV)} {ocs' : Option (List PV)} {KA : PV → Mem → Prop} (h_nu : nu = nu') (h_m : m = m') (h_ocs : ocs = ocs') : pBox nu m T ocs KA = pBox nu' m' T ocs' KA := by subst h_nu h_m h_ocs; rfl
@[congr] theorem cg_pBuildSlice {P : Program} {nu : Nat} {nu' : Nat} {m : Mem} {m' : Mem} {T : TypeId} {k : Nat} {ps : List (Nat × PV)} {ps' : List (Nat × PV)} {KA : PV → Mem → Prop} (h_nu : nu = nu') (h_m : m = m') (h_ps : ps = ps') : pBuildSlice P nu m T k ps KA = pBuildSlice P nu' m' T k ps' KA := by subst h_nu h_m h_ps; rfl
@[congr] theorem cg_pMake {P : Program} {nu : Nat} {nu' : Nat} {m : Mem} {m' : Mem} {T : TypeId} {x : PV} {x' : PV} {y : PV} {y' : PV} {KA : PV → Mem → Prop} (h_nu : nu = nu') (h_m : m = m') (h_x : x = x') (h_y : y = y') : pMake P nu m T x y KA = pMake P nu' m' T x' y' KA := by subst h_nu h_m h_x h_y; rfl
@[congr] theorem cg_pStore {P : Program} {m : Mem} {m' : Mem} {T : TypeId} {x : PV} {x' : PV} {y : PV} {y' : PV} {KA : PV → Mem → Prop} (h_m : m = m') (h_x : x = x') (h_y : y = y') : pStore P m T x y KA = pStore P m' T x' y' KA := by subst h_m h_x h_y; rfl
@[congr] theorem cg_pAppend {P : Program} {nu : Nat} {nu' : Nat} {m : Mem} {m' : Mem} {T : TypeId} {x : PV} {x' : PV} {y : PV} {y' : PV} {KA : PV → Mem → Prop} (h_nu : nu = nu') (h_m : m = m') (h_x : x = x') (h_y : y = y') : pAppend P nu m T x y KA = pAppend P nu' m' T x' y' KA := by subst h_nu h_m h_x h_y; rfl
@[congr] theorem cg_pDyn {P : Program} {io : Bool} {wd : Nat} {nu : Nat} {nu' : Nat} {p : PV} {p' : PV} {ps : List PV} {ps' : List PV} {m : Mem} {m' : Mem} {KA : PV → Mem → Prop} (h_nu : nu = nu') (h_p : p = p') (h_ps : ps = ps') (h_m : m = m') : pDyn P io wd nu p ps m KA = pDyn P io wd nu' p' ps' m' KA := by subst h_nu h_p h_ps h_m; rfl
@[congr] theorem cg_popA {P : Program} {io : Bool} {wd : Nat} {nu : Nat} {nu' : Nat} {o : Op} {t : List PV} {t' : List PV} {m : Mem} {m' : Mem} {KA : PV → Mem → Prop} (h_nu : nu = nu') (h_t : t = t') (h_m : m = m') : popA P io wd nu o t m KA = popA P io wd nu' o t' m' KA := by subst h_nu h_t h_m; rfl
@[congr] theorem cg_endD {ops2 : List Oper} {K : List PV → Mem → Prop} {g : List LE} {t : List PV} {t' : List PV} {m : Mem} {m' : Mem} (h_t : t = t') (h_m : m = m') : endD ops2 K g t m = endD ops2 K g t' m' := by subst h_t h_m; rfl
@[congr] theorem cg_pwp {P : Program} {n0 : Nat} {code : Code} {Q : Exit → List PV → Mem → Prop} {t : List PV} {t' : List PV} {m : Mem} {m' : Mem} (h_t : t = t') (h_m : m = m') : pwp P n0 code Q t m = pwp P n0 code Q t' m' := by subst h_t h_m; rfl
@[congr] theorem cg_thenP {K : List PV → Mem → Prop} {Q : Exit → List PV → Mem → Prop} {e : Exit} {e' : Exit} {t : List PV} {t' : List PV} {m : Mem} {m' : Mem} (h_t : t = t') (h_m : m = m') (h_e : e = e') : thenP K Q e t m = thenP K Q e' t' m' := by subst h_t h_m h_e; rfl
@[congr] theorem cg_blockP {id : Nat} {Q : Exit → List PV → Mem → Prop} {e : Exit} {e' : Exit} {t : List PV} {t' : List PV} {m : Mem} {m' : Mem} (h_t : t = t') (h_m : m = m') (h_e : e = e') : blockP id Q e t m = blockP id Q e' t' m' := by subst h_t h_m h_e; rfl
class EncOf (α : Type) where
  c : α → List PV
instance : EncOf Int := ⟨cInt⟩
instance : EncOf ByteArray := ⟨cStr⟩
instance : EncOf Bool := ⟨cBool⟩
section
variable {P : Program} {n0 : Nat} {Q : Exit → List PV → Mem → Prop} {t t' : List PV} {m m' : Mem} {K : List PV → Mem → Prop} {KR : PV → Prop} {KA : PV → Mem → Prop}
theorem HexL {σ ο β : Type} {s : σ} {F : σ → Option β} {K : ο → Option β} {r : β} (h : (some (Sum.inl s)).bind (selim F K) = some r) : F s = some r := h
theorem bexR {σ ο β : Type} {o : ο} {F : σ → Option β} {K : ο → Option β} : (some (Sum.inr o)).bind (selim F K) = K o := nrfl rfl
theorem bsr {α β γ δ : Type} {o : β} {F : α → Option γ} {G : β → Option γ} {K : γ → Option δ} : (selim F G (Sum.inr o)).bind K = (G o).bind K := nrfl rfl
theorem bsl {α β γ δ : Type} {o : α} {F : α → Option γ} {G : β → Option γ} {K : γ → Option δ} : (selim F G (Sum.inl o)).bind K = (F o).bind K := nrfl rfl
theorem Hc1k {α β : Type} {G : Prop} {b : Bool} {A B : Option α} {K : α → Option β} {r : β} (h : (cond b A B).bind K = some r) (hb : b = true) (k : A.bind K = some r → G) : G := k (Hc1 h hb)
theorem Hc2k {α β : Type} {G : Prop} {b : Bool} {A B : Option α} {K : α → Option β} {r : β} (h : (cond b A B).bind K = some r) (hb : b = false) (k : B.bind K = some r → G) : G := k (Hc2 h hb)
theorem gateS {c : Bool} {y n : List PV → Prop} {i : Nat} (h : gate2 c y n t i) : gate2 c y n t i := h
theorem idxS {T : TypeId} {es : List (List PV)} {i : PV} (h : pIndexAddr P m T (.sl es) i KR) : pIndexAddr P m T (.sl es) i KR := h
def mkOk (n bytes : Int) : Bool := decide (0 ≤ n ∧ n ≤ 1099511627776 ∧ bytes * n ≤ 140737488355328)
theorem mkS {T : TypeId} {ν : Nat} {x y : PV} (h : pMake P ν m T x y KA) : pMake P ν m T x y KA := h
theorem make_b {T e k ν : Nat} {n b : Int} {zc : List PV} (hok : mkOk n b = true) (hu : P.underlying T = some (.slice e)) (hz : pz P e = some zc) (hb : (P.bytesOf e : Int) = b) (hc : P.cellsOf e = k) (hzl : zc.length = k) (hp : decide (0 < k) = true) (hK : KA (.ms ν) (mput m ν ⟨e, k, List.replicate n.toNat zc⟩)) : pMake P ν m T (vi n) (vi n) KA := by
  subst hb hc
  have hok' := of_decide_eq_true hok
  simp only [pMake, hu, hz]
  exact ⟨trivial, hok'.1, of_decide_eq_true hp, hzl, hok'.2.1, hok'.2.2, hK⟩
theorem cutL_refl {ρ : Nat → Option Nat} : ∀ {cs : List PV}, (∀ q ∈ cs, isC q = true) → cutL ρ m m' cs cs
  | [], _ => trivial
  | c :: cs, h => ⟨.c c (h c List.mem_cons_self), cutL_refl fun q hq => h q (List.mem_cons_of_mem _ hq)⟩
theorem cutE_map {α : Type} {f : α → List PV} [hf : PlainC f] {ρ : Nat → Option Nat} : ∀ {xs : List α}, cutE ρ m m' (xs.map f) (xs.map f)
  | [] => trivial
  | x :: xs => ⟨cutL_refl (hf.h x), cutE_map⟩
theorem cutE_set {α : Type} {f : α → List PV} [hf : PlainC f] {ρ : Nat → Option Nat} {cs : List PV} {x : α} (h : cutL ρ m m' cs (f x)) : ∀ {xs : List α} {n : Nat}, cutE ρ m m' ((xs.map f).set n cs) ((xs.set n x).map f)
  | [], _ => trivial
  | y :: ys, 0 => ⟨h, cutE_map⟩
  | y :: ys, n + 1 => ⟨cutL_refl (hf.h y), cutE_set h⟩
theorem cutE_rep {α : Type} {f : α → List PV} {ρ : Nat → Option Nat} {cs : List PV} {x : α} (h : cutL ρ m m' cs (f x)) : ∀ {n : Nat}, cutE ρ m m' (List.replicate n cs) ((List.replicate n x).map f)
  | 0 => trivial
  | n + 1 => ⟨h, cutE_rep h⟩
theorem cutE_snoc {α : Type} {f : α → List PV} [hf : PlainC f] {ρ : Nat → Option Nat} {cs : List PV} {x : α} (h : cutL ρ m m' cs (f x)) : ∀ {xs : List α}, cutE ρ m m' (xs.map f ++ [cs]) ((xs ++ [x]).map f)
  | [] => ⟨h, trivial⟩
  | y :: ys => ⟨cutL_refl (hf.h y), cutE_snoc h⟩
theorem cutB_set {α : Type} {f : α → List PV} [PlainC f] {ρ : Nat → Option Nat} {T k n : Nat} {cs : List PV} {x : α} {xs : List α} (h : cutL ρ m m' cs (f x)) : cutF ρ m m' ⟨T, k, (xs.map f).set n cs⟩ ⟨T, k, (xs.set n x).map f⟩ := ⟨⟨rfl, rfl, .inr (cutE_set h)⟩, cutK_n rfl⟩
theorem cutB_rep {α : Type} {f : α → List PV} {ρ : Nat → Option Nat} {T k n : Nat} {cs : List PV} {x : α} (h : cutL ρ m m' cs (f x)) : cutF ρ m m' ⟨T, k, List.replicate n cs⟩ ⟨T, k, (List.replicate n x).map f⟩ := ⟨⟨rfl, rfl, .inr (cutE_rep h)⟩, cutK_n rfl⟩
theorem cutB_e {ρ : Nat → Option Nat} {T k : Nat} {es es' : List (List PV)} (h : cutE ρ m m' es es') : cutF ρ m m' ⟨T, k, es⟩ ⟨T, k, es'⟩ := ⟨⟨rfl, rfl, .inr h⟩, cutK_n rfl⟩
theorem cutE_n {ρ : Nat → Option Nat} : cutE ρ m m' [] [] := trivial
theorem cutE_c {ρ : Nat → Option Nat} {cs ds : List PV} {es es' : List (List PV)} (h : cutL ρ m m' cs ds) (h' : cutE ρ m m' es es') : cutE ρ m m' (cs :: es) (ds :: es') := ⟨h, h'⟩
theorem cutB_nil {ρ : Nat → Option Nat} {T k : Nat} : cutF ρ m m' ⟨T, k, []⟩ ⟨T, k, []⟩ := cutB_e trivial
theorem cutB_two {ρ : Nat → Option Nat} {T k : Nat} {a b c d : List PV} {es es' : List (List PV)} (h : cutE ρ m m' (a :: b :: es) (c :: d :: es')) : cutF ρ m m' ⟨T, k, a :: b :: es⟩ ⟨T, k, c :: d :: es'⟩ := cutB_e h
theorem cutB_snoc {α : Type} {f : α → List PV} [PlainC f] {ρ : Nat → Option Nat} {T k : Nat} {cs : List PV} {x : α} {xs : List α} (h : cutL ρ m m' cs (f x)) : cutF ρ m m' ⟨T, k, xs.map f ++ [cs]⟩ ⟨T, k, (xs ++ [x]).map f⟩ := ⟨⟨rfl, rfl, .inr (cutE_snoc h)⟩, cutK_n rfl⟩
theorem idxM {T : TypeId} {l : Nat} {i : PV} (h : pIndexAddr P m T (.ms l) i KR) : pIndexAddr P m T (.ms l) i KR := h
theorem idx_msb {α : Type} [EncOf α] {xs : List α} {x : α} {T T' : TypeId} {l k' : Nat} {i : Int} {k : IntKind} (h : getI xs i = some x) (hm : look m l = some ⟨T', k', xs.map EncOf.c⟩) (hp : 0 < elemK P T) (hk : k' = elemK P T) (hK : KR (.be l i.toNat 0)) : pIndexAddr P m T (.ms l) (.v (.int k i)) KR := idx_ms h hm hp hk hK
theorem idxmap {α : Type} {f : α → List PV} {xs : List α} {x : α} {i : Int} (h : getI xs i = some x) : (xs.map f)[i.toNat]? = some (f x) := by
  rw [List.getElem?_map, (getI_some h).2]; rfl
theorem slice_msb {α : Type} [EncOf α] {xs : List α} {T T' : TypeId} {r k : Nat} {lo hi : Option PV} {l h : Int} (hok : slOk l h xs.length = true) (hm : look m r = some ⟨T', k, xs.map EncOf.c⟩) (hlo : pBd lo 0 = some l) (hhi : pBd hi xs.length = some h) (hp : 0 < elemK P T) (hk : k = elemK P T) (hK : KR (.ss r l.toNat h.toNat)) : pSlice P m T (.ms r) lo hi KR := by
  obtain ⟨e, hu, he⟩ := elemK_of hp
  rw [he] at hp hk
  have hok' := of_decide_eq_true hok
  simp only [pSlice, hu, look_live, hm, List.length_map, hlo, hhi]
  exact ⟨hok'.1, hok'.2.1, hok'.2.2, hp, hk, hK⟩
theorem src_ss {α : Type} [EncOf α] {xs : List α} {T' : TypeId} {r k : Nat} {a b : Int} (hm : look m r = some ⟨T', k, xs.map EncOf.c⟩) : srcOf m (.ss r a.toNat b.toNat) = some ((subL xs a b).map EncOf.c) := by
  have h := look_iff.1 hm
  simp only [srcOf, h, drop_mp, take_mp, subL]
theorem src_ss' {α : Type} [EncOf α] {xs : List α} {T' : TypeId} {r k A B : Nat} {a b : Int} (hm : look m r = some ⟨T', k, xs.map EncOf.c⟩) (hA : A = a.toNat) (hB : B = b.toNat) : srcOf m (.ss r A B) = some ((subL xs a b).map EncOf.c) := by subst hA hB; exact src_ss hm
theorem gV_ag {cs : List PV} (h : cs.all isC = true) : goodV false (.ag cs) := fun c hc => goodC_of (List.all_eq_true.1 h c hc)
theorem gV_agF {cs : List PV} (h : cs.all isF = true) : goodV true (.ag cs) := fun c hc => goodF_of (List.all_eq_true.1 h c hc)
theorem gV_tu {ps : List PV} (h : ps.all isCA = true) : goodV false (.tu ps) := fun c hc => (isCA_ren (σ := id) (List.all_eq_true.1 h c hc)).2.1
theorem idxB {T : TypeId} {s : ByteArray} {i : PV} (h : pIndex P T (.v (.string s)) i KR) : pIndex P T (.v (.string s)) i KR := h
theorem slcS {T : TypeId} {x : PV} {lo hi : Option PV} (h : pSlice P m T x lo hi KR) : pSlice P m T x lo hi KR := h
theorem appS {T : TypeId} {ν : Nat} {x y : PV} (h : pAppend P ν m T x y KA) : pAppend P ν m T x y KA := h
theorem callS {f : FuncId} {ps : List PV} {io : Bool} {wd ν : Nat} (h : pCall P io wd ν f ps m KA) : pCall P io wd ν f ps m KA := h
theorem optS {o : Option Value} (h : optK o KR) : optK o KR := h
theorem loopS {c : Code} (h : pwp P n0 (.loop c) Q t m) : pwp P n0 (.loop c) Q t m := h
theorem cutS (h : Cuts n0 t m t' m') : Cuts n0 t m t' m' := h
theorem all_nil {α : Type} {p : α → Prop} : (∀ x ∈ ([] : List α), p x) = True := by simp
theorem all_cons {α : Type} {p : α → Prop} {a : α} {as_ : List α} : (∀ x ∈ a :: as_, p x) = (p a ∧ ∀ x ∈ as_, p x) := by simp
theorem rdp_rp {cs : List PV} : rdp m (.rp cs) = some cs := nrfl rfl
theorem app_msb {α : Type} [EncOf α] {xs ys : List α} {T : TypeId} {ν l e k n b : Nat} {x : PV} {zc : List PV} (hok : appOk (xs.length + ys.length) b = true) (hu : P.underlying T = some (.slice e)) (hz : pz P e = some zc) (hb : P.bytesOf e = b) (hc : P.cellsOf e = n) (hl : look m l = some ⟨e, k, xs.map EncOf.c⟩) (hsrc : srcOf m x = some (ys.map EncOf.c))
    (hzl : zc.length = n) (hp : decide (0 < n) = true) (hf : ∀ x : α, (EncOf.c x).length = n) (hk : k = n) (hK : KA (.ms ν) (mput (m.set l none) ν ⟨e, k, (xs ++ ys).map EncOf.c⟩)) : pAppend P ν m T (.ms l) x KA := by
  subst hb hc
  exact app_ms hok hu hz hsrc hl hzl (of_decide_eq_true hp) hf hk hK
theorem app_nlb {α : Type} [EncOf α] {ys : List α} {T : TypeId} {ν e n b : Nat} {x : PV} {zc : List PV} (hok : appOk ys.length b = true) (hu : P.underlying T = some (.slice e)) (hz : pz P e = some zc) (hb : P.bytesOf e = b) (hc : P.cellsOf e = n) (hsrc : srcOf m x = some (ys.map EncOf.c))
    (hzl : zc.length = n) (hp : decide (0 < n) = true) (hf : ∀ x : α, (EncOf.c x).length = n) (hK : KA (.ms ν) (mput m ν ⟨e, n, ys.map EncOf.c⟩)) : pAppend P ν m T (.v (.slice none 0 0)) x KA := by
  subst hb hc
  exact app_nl hok hu hz hsrc hzl (of_decide_eq_true hp) hf hK
theorem hm_nil {b : Bool} : ∀ mb, some mb ∈ ([] : Mem) → ∀ cs ∈ mb.es, ∀ p ∈ cs, goodC b p := by intro mb h; cases h
theorem hm_one {α : Type} {f : α → List PV} [PlainC f] {T k : Nat} {xs : List α} : ∀ mb, some mb ∈ ([some ⟨T, k, xs.map f⟩] : Mem) → ∀ cs ∈ mb.es, ∀ p ∈ cs, goodC false p := by
  intro mb h
  simp only [List.mem_singleton, Option.some.injEq] at h
  subst h
  exact of_eq_true goodD_map
theorem hm_oneT {α : Type} {f : α → List PV} [FlatC f] {T k : Nat} {xs : List α} : ∀ mb, some mb ∈ ([some ⟨T, k, xs.map f⟩] : Mem) → ∀ cs ∈ mb.es, ∀ p ∈ cs, goodC true p := by
  intro mb h
  simp only [List.mem_singleton, Option.some.injEq] at h
  subst h
  exact of_eq_true goodT_map
theorem hm_c {x : Option MB} {m : Mem} {b : Bool} (h1 : ∀ mb, some mb ∈ ([x] : Mem) → ∀ cs ∈ mb.es, ∀ p ∈ cs, goodC b p) (h2 : ∀ mb, some mb ∈ m → ∀ cs ∈ mb.es, ∀ p ∈ cs, goodC b p) : ∀ mb, some mb ∈ (x :: m) → ∀ cs ∈ mb.es, ∀ p ∈ cs, goodC b p := by
  intro mb h
  rcases List.mem_cons.1 h with h | h
  · exact h1 mb (by simp [h])
  · exact h2 mb h
end
theorem st_of {n : Nat} {qs : List PV} : (TK.of n).st qs = TK.of n := nrfl rfl
theorem sts_of {n : Nat} {es : List (List PV)} : (TK.of n).sts es = TK.of n := nrfl rfl
attribute [go_sem] st_of sts_of U_z U_s rdp_rp set_z set_s getD_z getD_s ops_z ops_s ops_a nxt_app atM_app rgo_app pgo_app gate2_tt gate2_ff pops_nil pops_go pops_gd nxd_app popsD_nil popsD_go popsD_gd rgd_app rge_app nxe_app ioAt_nil ioAt_cons popI_call pgd_app gd_some gd_none gdV_tt gdV_ff gdV_ud putP_some putP_none evP_tmp evP_int evP_bool evP_str evP_sl evP_ptr evP_func popA_move popA_assign pPick_t pPick_f popA_pick popA_load popA_nilCheck popA_binOp popA_unOp popA_convert popA_slice popA_fieldAddr popA_field popA_indexAddr popA_index popA_extract popA_build popA_makeFunc popA_len popA_min popA_max popA_alloc popA_box popA_buildSlice popA_makeSlice popA_store popA_append popA_call popA_dyn optK_some rdp_be look_z look_s mput_z mput_s mput_n0 mput_ns mset_z mset_s setR_z setR_e setR_s rapp_z rapp_s sig_n sig_z sig_s renEs_map renEs_nil renEs_cons rowQ_map live_look drop_mp take_mp pBin binV pUn pFieldAddr pField pExt pLen pMinMax pLoad aggd pBox pc pStore pNil thenP_normal blockP_normal thenP_exit thenP_ret blockP_exit blockP_ret Option.bind_some List.length_map if_true if_false Bool.false_eq_true List.map_cons List.map_nil List.toList_toArray beq_self_eq_true ite_self Int.toNat_natCast true_and and_true List.length_nil List.nil_append List.append_nil Nat.zero_add List.drop_zero List.drop_succ_cons List.take_zero List.take_succ_cons List.length_cons List.cons_append Option.map_some List.replicate_zero Bool.not_true Bool.not_false renV renA renC ren1 putNew renMB pPick pConv pConvM pBd Option.map_none pBuild fillP pBuildSlice chunk zflat all_cons all_nil Nat.zero_lt_succ Nat.lt_add_one and_self
theorem w64_in {n : Int} (h : -9223372036854775808 ≤ n ∧ n ≤ 9223372036854775807) : w64 n = n := IntWalk.i64_in n h
theorem w64_nat {i n : Nat} (hi : i < n) (hn : n ≤ 1152921504606846976) : w64 ((i : Int) + 1) = ((i + 1 : Nat) : Int) := by
  rw [w64_in (by omega)]; omega
theorem getI_nat {α : Type} {xs : List α} {i : Nat} : getI xs (i : Int) = xs[i]? := by
  unfold getI; rw [if_pos (by omega)]; simp
theorem chk_t {b : Bool} (h : b = true) : chk b = some () := by subst h; rfl
def runL {A α ο : Type} (F : Nat → A → α → Option (A ⊕ ο)) (E : A → Option ο) : Nat → List α → A → Option ο
  | _, [], a => E a
  | i, x :: xs, a => (F i a x).bind (selim (fun a' => runL F E (i + 1) xs a') some)
theorem iter_from {A α σ ο : Type} {xs : List α} {body : σ → Option (σ ⊕ ο)} {mk : A → Int → σ} {F : Nat → A → α → Option (A ⊕ ο)} {E : A → Option ο}
    (h1 : ∀ a (i : Nat) x, xs[i]? = some x → body (mk a i) = (F i a x).bind (selim (fun a' => some (.inl (mk a' ((i + 1 : Nat) : Int)))) (fun r => some (.inr r))))
    (h2 : ∀ a, body (mk a (xs.length : Int)) = (E a).bind fun r => some (.inr r)) :
    ∀ (ys : List α) (i : Nat) (N : Nat) (a : A), xs.drop i = ys → i ≤ xs.length → ys.length < N → iterF body N (mk a i) = runL F E i ys a
  | [], i, 0, a, _, _, hN => by omega
  | [], i, N + 1, a, hd, hi, hN => by
    have : i = xs.length := by have := congrArg List.length hd; simp at this; omega
    subst this
    simp only [iterF, runL, h2]
    cases E a <;> rfl
  | y :: ys, i, 0, a, _, _, hN => by simp at hN
  | y :: ys, i, N + 1, a, hd, hi, hN => by
    have hy : xs[i]? = some y := by
      have := congrArg (fun l => l[0]?) hd
      simpa using this
    have hlt : i < xs.length := (List.getElem?_eq_some_iff.1 hy).1
    have hd' : xs.drop (i + 1) = ys := by
      have := congrArg (List.drop 1) hd
      simpa [List.drop_drop] using this
    simp only [iterF, runL, h1 a i y hy]
    cases hF : F i a y with
    | none => rfl
    | some o =>
      cases o with
      | inl a' =>
        show iterF body N (mk a' ((i + 1 : Nat) : Int)) = runL F E (i + 1) ys a'
        exact iter_from h1 h2 ys (i + 1) N a' hd' hlt (by simp at hN; omega)
      | inr r => rfl
theorem iter_list {A α σ ο : Type} {xs : List α} {body : σ → Option (σ ⊕ ο)} {N : Nat} (mk : A → Int → σ) (F : Nat → A → α → Option (A ⊕ ο)) (E : A → Option ο)
    (h1 : ∀ a (i : Nat) x, xs[i]? = some x → body (mk a i) = (F i a x).bind (selim (fun a' => some (.inl (mk a' ((i + 1 : Nat) : Int)))) (fun r => some (.inr r))))
    (h2 : ∀ a, body (mk a (xs.length : Int)) = (E a).bind fun r => some (.inr r)) (hN : xs.length < N) (a : A) : iterF body N (mk a 0) = runL F E 0 xs a :=
  iter_from h1 h2 xs 0 N a rfl (Nat.zero_le _) hN
theorem runL_unit {α ο : Type} {o : ο} : ∀ (xs : List α) (i : Nat), runL (fun _ (_ : Unit) (_ : α) => some (.inl ())) (fun _ => some o) i xs () = some o
  | [], i => rfl
  | x :: xs, i => by simp only [runL]; exact runL_unit xs (i + 1)
theorem iter_pass {α ο : Type} {xs : List α} {body : Int → Option (Int ⊕ ο)} {o : ο} (h1 : ∀ (i : Nat) x, xs[i]? = some x → body (i : Int) = some (.inl ((i + 1 : Nat) : Int))) (h2 : body (xs.length : Int) = some (.inr o)) (hN : xs.length < NN) : iterF body NN 0 = some o := by
  refine (iter_list (A := Unit) (fun _ i => i) (fun _ _ _ => some (.inl ())) (fun _ => some o) ?_ ?_ hN ()).trans (runL_unit xs 0)
  · intro a i x hx; rw [h1 i x hx]; rfl
  · intro a; rw [h2]; rfl
theorem iter_copy {α : Type} {xs : List α} {z : α} {body : Int × List α → Option ((Int × List α) ⊕ List α)}
    (h1 : ∀ (i : Nat) (out : List α) x, xs[i]? = some x → out.length = xs.length → body ((i : Int), out) = some (.inl (((i + 1 : Nat) : Int), out.set i x)))
    (h2 : ∀ out : List α, body ((xs.length : Int), out) = some (.inr out)) (hN : xs.length < NN) : iterF body NN (0, List.replicate xs.length z) = some xs := by
  have key : ∀ (k i N : Nat) (out : List α), i + k = xs.length → k < N → out.length = xs.length → out.take i = xs.take i → iterF body N ((i : Int), out) = some xs := by
    intro k
    induction k with
    | zero =>
      intro i N out hi hk hl ht
      cases N with
      | zero => omega
      | succ N =>
        have hi' : i = xs.length := by omega
        subst hi'
        simp only [iterF, h2]
        have : out = xs := by rw [← List.take_length (l := out), hl, ht, List.take_length]
        rw [this]; rfl
    | succ k ih =>
      intro i N out hi hk hl ht
      cases N with
      | zero => omega
      | succ N =>
        have hlt : i < xs.length := by omega
        simp only [iterF, h1 i out xs[i] (List.getElem?_eq_getElem hlt) hl]
        refine ih (i + 1) N _ (by omega) (by omega) (by simpa using hl) ?_
        rw [List.take_add_one, List.take_add_one, List.getElem?_set_self (by omega), List.getElem?_eq_getElem hlt, List.take_set_of_le (Nat.le_refl i), ht]
  exact key xs.length 0 NN _ (by omega) hN (by simp) (by simp)
attribute [go_sem] Tryd.underlying2
@[go_sem] theorem tc2 : Tryd.prog.cellsOf 2 = 1 := by kernel_rfl
@[go_sem] theorem tb2 : Tryd.prog.bytesOf 2 = 8 := by kernel_rfl
@[go_sem] theorem tz2 : pz Tryd.prog 2 = some [.v (.int .i64 0)] := by kernel_rfl
attribute [go_sem] Tryd.underlying3
@[go_sem] theorem tc3 : Tryd.prog.cellsOf 3 = 1 := by kernel_rfl
@[go_sem] theorem tb3 : Tryd.prog.bytesOf 3 = 8 := by kernel_rfl
@[go_sem] theorem tz3 : pz Tryd.prog 3 = some [.v (.int .i64 0)] := by kernel_rfl
attribute [go_sem] Tryd.underlying4
@[go_sem] theorem tc4 : Tryd.prog.cellsOf 4 = 1 := by kernel_rfl
@[go_sem] theorem tb4 : Tryd.prog.bytesOf 4 = 1 := by kernel_rfl
@[go_sem] theorem tz4 : pz Tryd.prog 4 = some [.v (.bool false)] := by kernel_rfl
attribute [go_sem] Tryd.underlying5
@[go_sem] theorem tc5 : Tryd.prog.cellsOf 5 = 1 := by kernel_rfl
@[go_sem] theorem tb5 : Tryd.prog.bytesOf 5 = 1 := by kernel_rfl
@[go_sem] theorem tz5 : pz Tryd.prog 5 = some [.v (.int .u8 0)] := by kernel_rfl
attribute [go_sem] Tryd.underlying9
@[go_sem] theorem tc9 : Tryd.prog.cellsOf 9 = 1 := by kernel_rfl
@[go_sem] theorem tb9 : Tryd.prog.bytesOf 9 = 16 := by kernel_rfl
@[go_sem] theorem tz9 : pz Tryd.prog 9 = some [.v (.string ⟨#[]⟩)] := by kernel_rfl
attribute [go_sem] Tryd.underlying12
@[go_sem] theorem tc12 : Tryd.prog.cellsOf 12 = 1 := by kernel_rfl
@[go_sem] theorem tb12 : Tryd.prog.bytesOf 12 = 8 := by kernel_rfl
@[go_sem] theorem tz12 : pz Tryd.prog 12 = some [.v (.int .u64 0)] := by kernel_rfl
attribute [go_sem] Tryd.underlying21
@[go_sem] theorem tc21 : Tryd.prog.cellsOf 21 = 1 := by kernel_rfl
@[go_sem] theorem tb21 : Tryd.prog.bytesOf 21 = 4 := by kernel_rfl
@[go_sem] theorem tz21 : pz Tryd.prog 21 = some [.v (.int .i32 0)] := by kernel_rfl
attribute [go_sem] Tryd.underlying22
@[go_sem] theorem tc22 : Tryd.prog.cellsOf 22 = 1 := by kernel_rfl
@[go_sem] theorem tb22 : Tryd.prog.bytesOf 22 = 24 := by kernel_rfl
@[go_sem] theorem tz22 : pz Tryd.prog 22 = some [.v (.slice none 0 0)] := by kernel_rfl
@[go_sem] theorem tk22 : elemK Tryd.prog 22 = 4 := by kernel_rfl
attribute [go_sem] Tryd.underlying25
@[go_sem] theorem tc25 : Tryd.prog.cellsOf 25 = 1 := by kernel_rfl
@[go_sem] theorem tb25 : Tryd.prog.bytesOf 25 = 24 := by kernel_rfl
@[go_sem] theorem tz25 : pz Tryd.prog 25 = some [.v (.slice none 0 0)] := by kernel_rfl
@[go_sem] theorem tk25 : elemK Tryd.prog 25 = 4 := by kernel_rfl
attribute [go_sem] Tryd.underlying29
@[go_sem] theorem tc29 : Tryd.prog.cellsOf 29 = 1 := by kernel_rfl
@[go_sem] theorem tb29 : Tryd.prog.bytesOf 29 = 24 := by kernel_rfl
@[go_sem] theorem tz29 : pz Tryd.prog 29 = some [.v (.slice none 0 0)] := by kernel_rfl
@[go_sem] theorem tk29 : elemK Tryd.prog 29 = 1 := by kernel_rfl
attribute [go_sem] Tryd.underlying32
@[go_sem] theorem tc32 : Tryd.prog.cellsOf 32 = 1 := by kernel_rfl
@[go_sem] theorem tb32 : Tryd.prog.bytesOf 32 = 24 := by kernel_rfl
@[go_sem] theorem tz32 : pz Tryd.prog 32 = some [.v (.slice none 0 0)] := by kernel_rfl
@[go_sem] theorem tk32 : elemK Tryd.prog 32 = 1 := by kernel_rfl
attribute [go_sem] Tryd.underlying33
@[go_sem] theorem tc33 : Tryd.prog.cellsOf 33 = 4 := by kernel_rfl
@[go_sem] theorem tb33 : Tryd.prog.bytesOf 33 = 32 := by kernel_rfl
@[go_sem] theorem tz33 : pz Tryd.prog 33 = some [.v (.int .i64 0), .v (.int .i64 0), .v (.int .i64 0), .v (.int .i64 0)] := by kernel_rfl
@[go_sem] theorem te33 : Tryd.prog.eqGuardType Tryd.prog.depth 33 = false := by kernel_rfl
@[go_sem] theorem ts33 : Tryd.prog.stoodInHeld 33 = false := by kernel_rfl
attribute [go_sem] Tryd.underlying34
@[go_sem] theorem tc34 : Tryd.prog.cellsOf 34 = 4 := by kernel_rfl
@[go_sem] theorem tb34 : Tryd.prog.bytesOf 34 = 32 := by kernel_rfl
@[go_sem] theorem tz34 : pz Tryd.prog 34 = some [.v (.int .i64 0), .v (.int .i64 0), .v (.int .i64 0), .v (.int .i64 0)] := by kernel_rfl
@[go_sem] theorem te34 : Tryd.prog.eqGuardType Tryd.prog.depth 34 = false := by kernel_rfl
@[go_sem] theorem ts34 : Tryd.prog.stoodInHeld 34 = false := by kernel_rfl
attribute [go_sem] Tryd.underlying44
@[go_sem] theorem tc44 : Tryd.prog.cellsOf 44 = 4 := by kernel_rfl
@[go_sem] theorem tb44 : Tryd.prog.bytesOf 44 = 32 := by kernel_rfl
@[go_sem] theorem tz44 : pz Tryd.prog 44 = some [.v (.int .i64 0), .v (.int .i64 0), .v (.int .i64 0), .v (.int .i64 0)] := by kernel_rfl
@[go_sem] theorem te44 : Tryd.prog.eqGuardType Tryd.prog.depth 44 = false := by kernel_rfl
@[go_sem] theorem ts44 : Tryd.prog.stoodInHeld 44 = false := by kernel_rfl
attribute [go_sem] Tryd.underlying45
@[go_sem] theorem tc45 : Tryd.prog.cellsOf 45 = 1 := by kernel_rfl
@[go_sem] theorem tb45 : Tryd.prog.bytesOf 45 = 24 := by kernel_rfl
@[go_sem] theorem tz45 : pz Tryd.prog 45 = some [.v (.slice none 0 0)] := by kernel_rfl
@[go_sem] theorem tk45 : elemK Tryd.prog 45 = 1 := by kernel_rfl
attribute [go_sem] Tryd.underlying57
@[go_sem] theorem tc57 : Tryd.prog.cellsOf 57 = 3 := by kernel_rfl
@[go_sem] theorem tb57 : Tryd.prog.bytesOf 57 = 40 := by kernel_rfl
@[go_sem] theorem tz57 : pz Tryd.prog 57 = some [.v (.slice none 0 0), .v (.int .i64 0), .v (.int .i64 0)] := by kernel_rfl
@[go_sem] theorem te57 : Tryd.prog.eqGuardType Tryd.prog.depth 57 = false := by kernel_rfl
@[go_sem] theorem ts57 : Tryd.prog.stoodInHeld 57 = false := by kernel_rfl
attribute [go_sem] Tryd.underlying58
@[go_sem] theorem tc58 : Tryd.prog.cellsOf 58 = 3 := by kernel_rfl
@[go_sem] theorem tb58 : Tryd.prog.bytesOf 58 = 40 := by kernel_rfl
@[go_sem] theorem tz58 : pz Tryd.prog 58 = some [.v (.slice none 0 0), .v (.int .i64 0), .v (.int .i64 0)] := by kernel_rfl
@[go_sem] theorem te58 : Tryd.prog.eqGuardType Tryd.prog.depth 58 = false := by kernel_rfl
@[go_sem] theorem ts58 : Tryd.prog.stoodInHeld 58 = false := by kernel_rfl
attribute [go_sem] Tryd.underlying68
@[go_sem] theorem tc68 : Tryd.prog.cellsOf 68 = 1 := by kernel_rfl
@[go_sem] theorem tb68 : Tryd.prog.bytesOf 68 = 8 := by kernel_rfl
@[go_sem] theorem tz68 : pz Tryd.prog 68 = some [.v (.int .u64 0)] := by kernel_rfl
attribute [go_sem] Tryd.underlying75
@[go_sem] theorem tc75 : Tryd.prog.cellsOf 75 = 1 := by kernel_rfl
@[go_sem] theorem tb75 : Tryd.prog.bytesOf 75 = 24 := by kernel_rfl
@[go_sem] theorem tz75 : pz Tryd.prog 75 = some [.v (.slice none 0 0)] := by kernel_rfl
@[go_sem] theorem tk75 : elemK Tryd.prog 75 = 1 := by kernel_rfl
attribute [go_sem] Tryd.underlying86
@[go_sem] theorem tc86 : Tryd.prog.cellsOf 86 = 1 := by kernel_rfl
@[go_sem] theorem tb86 : Tryd.prog.bytesOf 86 = 4 := by kernel_rfl
@[go_sem] theorem tz86 : pz Tryd.prog 86 = some [.v (.int .u32 0)] := by kernel_rfl
attribute [go_sem] Tryd.underlying88
@[go_sem] theorem tc88 : Tryd.prog.cellsOf 88 = 1 := by kernel_rfl
@[go_sem] theorem tb88 : Tryd.prog.bytesOf 88 = 8 := by kernel_rfl
@[go_sem] theorem tz88 : pz Tryd.prog 88 = some [.v (.int .u64 0)] := by kernel_rfl
@[go_sem] theorem fn3 : isFn Tryd.prog 3 := ⟨_, Tryd.func3, rfl, by kernel_rfl⟩
@[go_sem] theorem fn4 : isFn Tryd.prog 4 := ⟨_, Tryd.func4, rfl, by kernel_rfl⟩
@[go_sem] theorem fn5 : isFn Tryd.prog 5 := ⟨_, Tryd.func5, rfl, by kernel_rfl⟩
@[go_sem] theorem fn6 : isFn Tryd.prog 6 := ⟨_, Tryd.func6, rfl, by kernel_rfl⟩
@[go_sem] theorem fn7 : isFn Tryd.prog 7 := ⟨_, Tryd.func7, rfl, by kernel_rfl⟩
@[go_sem] theorem fn8 : isFn Tryd.prog 8 := ⟨_, Tryd.func8, rfl, by kernel_rfl⟩
@[go_sem] theorem fn9 : isFn Tryd.prog 9 := ⟨_, Tryd.func9, rfl, by kernel_rfl⟩
@[go_sem] theorem fn10 : isFn Tryd.prog 10 := ⟨_, Tryd.func10, rfl, by kernel_rfl⟩
@[go_sem] theorem fn11 : isFn Tryd.prog 11 := ⟨_, Tryd.func11, rfl, by kernel_rfl⟩
@[go_sem] theorem fn12 : isFn Tryd.prog 12 := ⟨_, Tryd.func12, rfl, by kernel_rfl⟩
@[go_sem] theorem fn13 : isFn Tryd.prog 13 := ⟨_, Tryd.func13, rfl, by kernel_rfl⟩
@[go_sem] theorem fn14 : isFn Tryd.prog 14 := ⟨_, Tryd.func14, rfl, by kernel_rfl⟩
@[go_sem] theorem fn15 : isFn Tryd.prog 15 := ⟨_, Tryd.func15, rfl, by kernel_rfl⟩
@[go_sem] theorem fn16 : isFn Tryd.prog 16 := ⟨_, Tryd.func16, rfl, by kernel_rfl⟩
@[go_sem] theorem fn17 : isFn Tryd.prog 17 := ⟨_, Tryd.func17, rfl, by kernel_rfl⟩
@[go_sem] theorem fn18 : isFn Tryd.prog 18 := ⟨_, Tryd.func18, rfl, by kernel_rfl⟩
@[go_sem] theorem fn19 : isFn Tryd.prog 19 := ⟨_, Tryd.func19, rfl, by kernel_rfl⟩
@[go_sem] theorem fn20 : isFn Tryd.prog 20 := ⟨_, Tryd.func20, rfl, by kernel_rfl⟩
@[go_sem] theorem fn21 : isFn Tryd.prog 21 := ⟨_, Tryd.func21, rfl, by kernel_rfl⟩
@[go_sem] theorem fn22 : isFn Tryd.prog 22 := ⟨_, Tryd.func22, rfl, by kernel_rfl⟩
@[go_sem] theorem fn23 : isFn Tryd.prog 23 := ⟨_, Tryd.func23, rfl, by kernel_rfl⟩
@[go_sem] theorem fn24 : isFn Tryd.prog 24 := ⟨_, Tryd.func24, rfl, by kernel_rfl⟩
@[go_sem] theorem fn25 : isFn Tryd.prog 25 := ⟨_, Tryd.func25, rfl, by kernel_rfl⟩
@[go_sem] theorem fn26 : isFn Tryd.prog 26 := ⟨_, Tryd.func26, rfl, by kernel_rfl⟩
@[go_sem] theorem fn27 : isFn Tryd.prog 27 := ⟨_, Tryd.func27, rfl, by kernel_rfl⟩
@[go_sem] theorem fn28 : isFn Tryd.prog 28 := ⟨_, Tryd.func28, rfl, by kernel_rfl⟩
@[go_sem] theorem fn29 : isFn Tryd.prog 29 := ⟨_, Tryd.func29, rfl, by kernel_rfl⟩
@[go_sem] theorem fn30 : isFn Tryd.prog 30 := ⟨_, Tryd.func30, rfl, by kernel_rfl⟩
@[go_sem] theorem fn31 : isFn Tryd.prog 31 := ⟨_, Tryd.func31, rfl, by kernel_rfl⟩
@[go_sem] theorem fn32 : isFn Tryd.prog 32 := ⟨_, Tryd.func32, rfl, by kernel_rfl⟩
@[go_sem] theorem fn33 : isFn Tryd.prog 33 := ⟨_, Tryd.func33, rfl, by kernel_rfl⟩
@[go_sem] theorem fn35 : isFn Tryd.prog 35 := ⟨_, Tryd.func35, rfl, by kernel_rfl⟩
@[go_sem] theorem fn36 : isFn Tryd.prog 36 := ⟨_, Tryd.func36, rfl, by kernel_rfl⟩
@[go_sem] theorem fn37 : isFn Tryd.prog 37 := ⟨_, Tryd.func37, rfl, by kernel_rfl⟩
@[go_sem] theorem fn38 : isFn Tryd.prog 38 := ⟨_, Tryd.func38, rfl, by kernel_rfl⟩
@[go_sem] theorem fn39 : isFn Tryd.prog 39 := ⟨_, Tryd.func39, rfl, by kernel_rfl⟩
@[go_sem] theorem fn41 : isFn Tryd.prog 41 := ⟨_, Tryd.func41, rfl, by kernel_rfl⟩
@[go_sem] theorem fn42 : isFn Tryd.prog 42 := ⟨_, Tryd.func42, rfl, by kernel_rfl⟩
@[go_sem] theorem fn43 : isFn Tryd.prog 43 := ⟨_, Tryd.func43, rfl, by kernel_rfl⟩
@[go_sem] theorem fn44 : isFn Tryd.prog 44 := ⟨_, Tryd.func44, rfl, by kernel_rfl⟩
@[go_sem] theorem fn46 : isFn Tryd.prog 46 := ⟨_, Tryd.func46, rfl, by kernel_rfl⟩
@[go_sem] theorem fn47 : isFn Tryd.prog 47 := ⟨_, Tryd.func47, rfl, by kernel_rfl⟩
@[go_sem] theorem fn49 : isFn Tryd.prog 49 := ⟨_, Tryd.func49, rfl, by kernel_rfl⟩
@[go_sem] theorem fn50 : isFn Tryd.prog 50 := ⟨_, Tryd.func50, rfl, by kernel_rfl⟩
@[go_sem] theorem fn51 : isFn Tryd.prog 51 := ⟨_, Tryd.func51, rfl, by kernel_rfl⟩
@[go_sem] theorem fn52 : isFn Tryd.prog 52 := ⟨_, Tryd.func52, rfl, by kernel_rfl⟩
@[go_sem] theorem fn53 : isFn Tryd.prog 53 := ⟨_, Tryd.func53, rfl, by kernel_rfl⟩
@[go_sem] theorem fn54 : isFn Tryd.prog 54 := ⟨_, Tryd.func54, rfl, by kernel_rfl⟩
@[go_sem] theorem fn59 : isFn Tryd.prog 59 := ⟨_, Tryd.func59, rfl, by kernel_rfl⟩
@[go_sem] theorem fn60 : isFn Tryd.prog 60 := ⟨_, Tryd.func60, rfl, by kernel_rfl⟩
@[go_sem] theorem fn61 : isFn Tryd.prog 61 := ⟨_, Tryd.func61, rfl, by kernel_rfl⟩
@[go_sem] theorem fn62 : isFn Tryd.prog 62 := ⟨_, Tryd.func62, rfl, by kernel_rfl⟩
instance : PlainC cInt := ⟨fun x q h => by simp only [cInt, List.mem_singleton] at h; subst h; rfl⟩
instance : FlatC cInt := ⟨fun x q h => by simp only [cInt, List.mem_singleton] at h; subst h; rfl⟩
instance : PlainC cStr := ⟨fun x q h => by simp only [cStr, List.mem_singleton] at h; subst h; rfl⟩
instance : FlatC cStr := ⟨fun x q h => by simp only [cStr, List.mem_singleton] at h; subst h; rfl⟩
instance : PlainC cBool := ⟨fun x q h => by simp only [cBool, List.mem_singleton] at h; subst h; rfl⟩
instance : FlatC cBool := ⟨fun x q h => by simp only [cBool, List.mem_singleton] at h; subst h; rfl⟩
structure YB8 where
  v : Int
deriving DecidableEq
def cB8 (x : YB8) : List PV := [v8 x.v]
instance : EncOf YB8 := ⟨cB8⟩
instance : PlainC cB8 := ⟨fun x q h => by simp only [cB8, List.mem_singleton] at h; subst h; rfl⟩
instance : FlatC cB8 := ⟨fun x q h => by simp only [cB8, List.mem_singleton] at h; subst h; rfl⟩
structure Yl1Cur where
  b : List YB8
  i : Int
  h : Int
deriving DecidableEq
def cl1Cur (x : Yl1Cur) : List PV := [.sl (x.b.map cB8), vi x.i, vi x.h]
instance : EncOf Yl1Cur := ⟨cl1Cur⟩
instance : PlainC cl1Cur := ⟨fun x q h => by simp only [cl1Cur, List.mem_cons, List.not_mem_nil, or_false] at h; (repeat' (first | (rcases h with rfl | h; rfl) | (subst h; rfl)))⟩
instance : EncOf YLabel := ⟨cLabel⟩
instance : PlainC cLabel := ⟨fun x q h => by simp only [cLabel, List.mem_cons, List.not_mem_nil, or_false] at h; (repeat' (first | (rcases h with rfl | h; rfl) | (subst h; rfl)))⟩
instance : FlatC cLabel := ⟨fun x q h => by simp only [cLabel, List.mem_cons, List.not_mem_nil, or_false] at h; (repeat' (first | (rcases h with rfl | h; rfl) | (subst h; rfl)))⟩
instance : EncOf YParcel := ⟨cParcel⟩
instance : PlainC cParcel := ⟨fun x q h => by simp only [cParcel, List.mem_cons, List.not_mem_nil, or_false] at h; (repeat' (first | (rcases h with rfl | h; rfl) | (subst h; rfl)))⟩
instance : EncOf YZone := ⟨cZone⟩
instance : PlainC cZone := ⟨fun x q h => by simp only [cZone, List.mem_cons, List.not_mem_nil, or_false] at h; (repeat' (first | (rcases h with rfl | h; rfl) | (subst h; rfl)))⟩
instance : FlatC cZone := ⟨fun x q h => by simp only [cZone, List.mem_cons, List.not_mem_nil, or_false] at h; (repeat' (first | (rcases h with rfl | h; rfl) | (subst h; rfl)))⟩
instance : EncOf YRate := ⟨cRate⟩
instance : PlainC cRate := ⟨fun x q h => by simp only [cRate, List.mem_cons, List.not_mem_nil, or_false] at h; (repeat' (first | (rcases h with rfl | h; rfl) | (subst h; rfl)))⟩
instance : FlatC cRate := ⟨fun x q h => by simp only [cRate, List.mem_cons, List.not_mem_nil, or_false] at h; (repeat' (first | (rcases h with rfl | h; rfl) | (subst h; rfl)))⟩
instance : EncOf YLeg := ⟨cLeg⟩
instance : PlainC cLeg := ⟨fun x q h => by simp only [cLeg, List.mem_cons, List.not_mem_nil, or_false] at h; (repeat' (first | (rcases h with rfl | h; rfl) | (subst h; rfl)))⟩
instance : FlatC cLeg := ⟨fun x q h => by simp only [cLeg, List.mem_cons, List.not_mem_nil, or_false] at h; (repeat' (first | (rcases h with rfl | h; rfl) | (subst h; rfl)))⟩
instance : EncOf YNetwork := ⟨cNetwork⟩
instance : PlainC cNetwork := ⟨fun x q h => by simp only [cNetwork, List.mem_cons, List.not_mem_nil, or_false] at h; (repeat' (first | (rcases h with rfl | h; rfl) | (subst h; rfl)))⟩
instance : EncOf YTrip := ⟨cTrip⟩
instance : PlainC cTrip := ⟨fun x q h => by simp only [cTrip, List.mem_cons, List.not_mem_nil, or_false] at h; (repeat' (first | (rcases h with rfl | h; rfl) | (subst h; rfl)))⟩
instance : FlatC cTrip := ⟨fun x q h => by simp only [cTrip, List.mem_cons, List.not_mem_nil, or_false] at h; (repeat' (first | (rcases h with rfl | h; rfl) | (subst h; rfl)))⟩
instance : EncOf YBooking := ⟨cBooking⟩
instance : PlainC cBooking := ⟨fun x q h => by simp only [cBooking, List.mem_cons, List.not_mem_nil, or_false] at h; (repeat' (first | (rcases h with rfl | h; rfl) | (subst h; rfl)))⟩
instance : FlatC cBooking := ⟨fun x q h => by simp only [cBooking, List.mem_cons, List.not_mem_nil, or_false] at h; (repeat' (first | (rcases h with rfl | h; rfl) | (subst h; rfl)))⟩
instance : EncOf YScan := ⟨cScan⟩
instance : PlainC cScan := ⟨fun x q h => by simp only [cScan, List.mem_cons, List.not_mem_nil, or_false] at h; (repeat' (first | (rcases h with rfl | h; rfl) | (subst h; rfl)))⟩
instance : FlatC cScan := ⟨fun x q h => by simp only [cScan, List.mem_cons, List.not_mem_nil, or_false] at h; (repeat' (first | (rcases h with rfl | h; rfl) | (subst h; rfl)))⟩
instance : EncOf YOrder := ⟨cOrder⟩
instance : PlainC cOrder := ⟨fun x q h => by simp only [cOrder, List.mem_cons, List.not_mem_nil, or_false] at h; (repeat' (first | (rcases h with rfl | h; rfl) | (subst h; rfl)))⟩
instance : EncOf YWorld := ⟨cWorld⟩
instance : PlainC cWorld := ⟨fun x q h => by simp only [cWorld, List.mem_cons, List.not_mem_nil, or_false] at h; (repeat' (first | (rcases h with rfl | h; rfl) | (subst h; rfl)))⟩
instance : EncOf YLine := ⟨cLine⟩
instance : PlainC cLine := ⟨fun x q h => by simp only [cLine, List.mem_cons, List.not_mem_nil, or_false] at h; (repeat' (first | (rcases h with rfl | h; rfl) | (subst h; rfl)))⟩
instance : FlatC cLine := ⟨fun x q h => by simp only [cLine, List.mem_cons, List.not_mem_nil, or_false] at h; (repeat' (first | (rcases h with rfl | h; rfl) | (subst h; rfl)))⟩
instance : EncOf YAct := ⟨cAct⟩
instance : PlainC cAct := ⟨fun x q h => by simp only [cAct, List.mem_cons, List.not_mem_nil, or_false] at h; (repeat' (first | (rcases h with rfl | h; rfl) | (subst h; rfl)))⟩
instance : EncOf YOffice := ⟨cOffice⟩
instance : PlainC cOffice := ⟨fun x q h => by simp only [cOffice, List.mem_cons, List.not_mem_nil, or_false] at h; (repeat' (first | (rcases h with rfl | h; rfl) | (subst h; rfl)))⟩
instance : EncOf YItem := ⟨cItem⟩
instance : PlainC cItem := ⟨fun x q h => by simp only [cItem, List.mem_cons, List.not_mem_nil, or_false] at h; (repeat' (first | (rcases h with rfl | h; rfl) | (subst h; rfl)))⟩
instance : FlatC cItem := ⟨fun x q h => by simp only [cItem, List.mem_cons, List.not_mem_nil, or_false] at h; (repeat' (first | (rcases h with rfl | h; rfl) | (subst h; rfl)))⟩
instance : EncOf YChute := ⟨cChute⟩
instance : PlainC cChute := ⟨fun x q h => by simp only [cChute, List.mem_cons, List.not_mem_nil, or_false] at h; (repeat' (first | (rcases h with rfl | h; rfl) | (subst h; rfl)))⟩
instance : EncOf YInlet := ⟨cInlet⟩
instance : PlainC cInlet := ⟨fun x q h => by simp only [cInlet, List.mem_cons, List.not_mem_nil, or_false] at h; (repeat' (first | (rcases h with rfl | h; rfl) | (subst h; rfl)))⟩
instance : EncOf YCentre := ⟨cCentre⟩
instance : PlainC cCentre := ⟨fun x q h => by simp only [cCentre, List.mem_cons, List.not_mem_nil, or_false] at h; (repeat' (first | (rcases h with rfl | h; rfl) | (subst h; rfl)))⟩
instance : EncOf YThing := ⟨cThing⟩
instance : PlainC cThing := ⟨fun x q h => by simp only [cThing, List.mem_cons, List.not_mem_nil, or_false] at h; (repeat' (first | (rcases h with rfl | h; rfl) | (subst h; rfl)))⟩
instance : FlatC cThing := ⟨fun x q h => by simp only [cThing, List.mem_cons, List.not_mem_nil, or_false] at h; (repeat' (first | (rcases h with rfl | h; rfl) | (subst h; rfl)))⟩
instance : EncOf YBelief := ⟨cBelief⟩
instance : PlainC cBelief := ⟨fun x q h => by simp only [cBelief, List.mem_cons, List.not_mem_nil, or_false] at h; (repeat' (first | (rcases h with rfl | h; rfl) | (subst h; rfl)))⟩
attribute [go_sem] cInt cStr cBool cB8 cl1Cur cLabel cParcel cZone cRate cLeg cNetwork cTrip cBooking cScan cOrder cWorld cLine cAct cOffice cItem cChute cInlet cCentre cThing cBelief EncOf.c
def frz (t : List PV) (m : Mem) : Option Unit := some ()
theorem Cuts.trans {n0 : Nat} {t t1 t2 : List PV} {m m1 m2 : Mem} (h : Cuts n0 t m t1 m1) (k : Cuts n0 t1 m1 t2 m2) : Cuts n0 t m t2 m2 := by
  induction h with
  | one h => exact .two h k
  | two h h' ih => exact .two h (ih k)
theorem pwp_frz {P : Program} {n0 : Nat} {Q : Exit → List PV → Mem → Prop} {t T : List PV} {m M : Mem} {α β : Type} {F : Unit → Option α} {K : α → Option β} {r : β} {i : Nat} {ops : Array Oper} {draw : Bool}
    (H : ((frz T M).bind F).bind K = some r) (hc : Cuts n0 t m T M) (hk : (F ()).bind K = some r → pwp P n0 (.region i ops draw) Q T M) : pwp P n0 (.region i ops draw) Q t m := by
  rcases hk H with h | ⟨t1, m1, h1, h2⟩
  · exact .inr ⟨T, M, hc, h⟩
  · exact .inr ⟨t1, m1, hc.trans h1, h2⟩
def drwL (wd : Nat) (fl : List Nat) : Option Unit := some ()
theorem pwp_drwL {P : Program} {n0 : Nat} {Q : Exit → List PV → Mem → Prop} {t : List PV} {m : Mem} {α β : Type} {wd : Nat} {fl : List Nat} {F : Unit → Option α} {K : α → Option β} {r : β} {id : Nat} {ops : List Oper}
    (H : ((drwL wd fl).bind F).bind K = some r) (hwd : decide (0 < wd) = true) (h1 : P.follows .mixedOrders = true) (hk : (F ()).bind K = some r → popsD P wd m.length fl ops.toArray (endD ops (Q .normal)) 0 ops [] t m) : pwp P n0 (.region id ops.toArray true) Q t m := pwp_drawE hwd h1 (hk H)
theorem cutC_fmso {m m' : Mem} {rs : List (Option Nat)} {α : Type} {f : α → List PV} [PlainC f] {xs : List α} {x : α} {cs : List PV} {k k' n : Nat} {T : TypeId} (hm : look m k = some ⟨T, k', (xs.map f).set n cs⟩) (hc : f x = cs) (hd : dropped (rho rs) m' k) : CutC (rho rs) m m' (.ms k) (.sl ((xs.set n x).map f)) := by
  subst hc
  refine cutC_fms (f := f) (xs := xs.set n x) (T := T) (k' := k') ?_ hd
  rw [hm, List.map_set]
theorem cutC_fss {m m' : Mem} {rs : List (Option Nat)} {α : Type} {f : α → List PV} [PlainC f] {xs : List α} {a b : Int} {k k' A B : Nat} {T : TypeId} (hm : look m k = some ⟨T, k', xs.map f⟩) (hA : A = a.toNat) (hB : B = b.toNat) (hd : dropped (rho rs) m' k) : CutC (rho rs) m m' (.ss k A B) (.sl ((subL xs a b).map f)) := by
  subst hA hB
  have := CutC.fss (ρ := rho rs) (m := m) (m' := m') k a.toNat b.toNat ⟨T, k', xs.map f⟩ (look_iff.1 hm) rowC_map hd
  simpa only [drop_mp, take_mp, subL] using this
def rgI {α : Type} (xs : List α) (i : Int) : Option α := getI xs i
theorem rgH {α β γ : Type} {xs : List α} {i : Int} {F : α → Option β} {K : β → Option γ} {r : γ} (H : ((rgI xs i).bind F).bind K = some r) : ∃ x, getI xs i = some x ∧ (F x).bind K = some r := Hcall H
theorem idxset {α : Type} {f : α → List PV} {xs : List α} {x : α} {i : Int} {cs : List PV} (h : getI xs i = some x) : ((xs.map f).set i.toNat cs)[i.toNat]? = some cs := by
  rw [List.getElem?_set_self]
  have := (List.getElem?_eq_some_iff.1 (getI_some h).2).1
  simpa using this
theorem idx_msov {P : Program} {m : Mem} {KR : PV → Prop} {α : Type} [EncOf α] {xs : List α} {x : α} {T T' : TypeId} {l k' n : Nat} {cs : List PV} {i : Int} {k : IntKind} (h : getI xs i = some x) (hm : look m l = some ⟨T', k', (xs.map EncOf.c).set n cs⟩) (hp : 0 < elemK P T) (hk : k' = elemK P T) (hK : KR (.be l i.toNat 0)) : pIndexAddr P m T (.ms l) (.v (.int k i)) KR := by
  obtain ⟨h1, h2, h3⟩ := getI_lt h
  obtain ⟨e, hu, he⟩ := elemK_of hp
  rw [he] at hk
  simp only [pIndexAddr, hu, look_live, hm, List.length_map, List.length_set]
  exact ⟨h1, h2, hk, hK⟩
attribute [go_sem] List.length_set List.set_set
def frzL {α : Type} (x : α) (t : α → List PV) (m : α → Mem) : Option α := some x
theorem pwp_frzL {P : Program} {n0 : Nat} {Q : Exit → List PV → Mem → Prop} {t : List PV} {m : Mem} {ξ α β : Type} {x : ξ} {T : ξ → List PV} {M : ξ → Mem} {F : ξ → Option α} {K : α → Option β} {r : β} {i : Nat} {ops : Array Oper} {draw : Bool}
    (H : ((frzL x T M).bind F).bind K = some r) (hc : Cuts n0 t m (T x) (M x)) (hk : ∀ z, (F z).bind K = some r → pwp P n0 (.region i ops draw) Q (T z) (M z)) : pwp P n0 (.region i ops draw) Q t m := by
  rcases hk x H with h | ⟨t1, m1, h1, h2⟩
  · exact .inr ⟨T x, M x, hc, h⟩
  · exact .inr ⟨t1, m1, hc.trans h1, h2⟩
def rhoM (ρ : List Nat) : Option Unit := some ()
theorem call_io {R α β : Type} {P : Program} {ρ : List Nat} {A : Option R} [C : CT P A] {F : Unit → Option α} {G : R → Option α} {K : α → Option β} {r : β} {f : FuncId} {ps : List PV} {io : Bool} {wd ν : Nat} {m : Mem} {KA : PV → Mem → Prop}
    (H : ((rhoM ρ).bind F).bind K = some r) (hF : F () = A.bind G) (hf : C.f = f) (hio : io = true) (hps : ps = C.args.map (renA (sig ρ ν))) (hq : ∀ q ∈ C.args, goodA false q ∧ lowA C.m0.length q = true) (hn : ρ.Nodup) (hin : inRows (sig ρ ν) m C.m0.length ρ C.m0)
    (hlen : ∀ y, C.m0.length ≤ (C.mem y).length ∧ (C.mem y).length - C.m0.length ≤ wd) (hm : ∀ y, ∀ mb, some mb ∈ C.mem y → ∀ cs ∈ mb.es, ∀ p ∈ cs, goodC false p) (hg : ∀ y, goodV false (C.res y))
    (hk : ∀ y, A = some y → (G y).bind K = some r → KA (renV (sig ρ ν) (C.res y)) (putNew (sig ρ ν) ν ((C.mem y).drop ρ.length) (putIn (sig ρ ν) ρ (C.mem y) m))) : pCall P io wd ν f ps m KA := by
  have H' : (F ()).bind K = some r := H
  rw [hF] at H'
  obtain ⟨y, hy, H2⟩ := Hcall H'
  subst hf
  exact .inr ⟨ρ, C.m0, C.args, C.res y, C.mem y, .inl hio, C.ok hy, (hlen y).1, (hlen y).2, hps, hq, hn, hin, hm y, hg y, hk y hy H2⟩
theorem call_ioD {R α β : Type} {P : Program} {ρ : List Nat} {A : Option R} [C : CT P A] {F : Unit → Option α} {G : R → Option α} {K : α → Option β} {r : β} {f : FuncId} {ps : List PV} {wd ν : Nat} {m : Mem} {KA : List Nat → PV → Mem → Prop}
    (H : ((rhoM ρ).bind F).bind K = some r) (hF : F () = A.bind G) (hf : C.f = f) (hps : ps = C.args.map (renA (sig ρ ν))) (hq : ∀ q ∈ C.args, goodA false q ∧ lowA C.m0.length q = true) (hn : ρ.Nodup) (hin : inRows (sig ρ ν) m C.m0.length ρ C.m0)
    (hlen : ∀ y, C.m0.length ≤ (C.mem y).length ∧ (C.mem y).length - C.m0.length ≤ wd) (hm : ∀ y, ∀ mb, some mb ∈ C.mem y → ∀ cs ∈ mb.es, ∀ p ∈ cs, goodC false p) (hg : ∀ y, goodV false (C.res y))
    (hk : ∀ y, A = some y → (G y).bind K = some r → KA ρ (renV (sig ρ ν) (C.res y)) (putNew (sig ρ ν) ν ((C.mem y).drop ρ.length) (putIn (sig ρ ν) ρ (C.mem y) m))) : pIO P wd ν f ps m KA := by
  have H' : (F ()).bind K = some r := H
  rw [hF] at H'
  obtain ⟨y, hy, H2⟩ := Hcall H'
  subst hf
  exact ⟨ρ, C.m0, C.args, C.res y, C.mem y, C.ok hy, (hlen y).1, (hlen y).2, hps, hq, hn, hin, hm y, hg y, hk y hy H2⟩
def IsRho : Prop := True
theorem rhoH {α β : Type} {ρ : List Nat} {F : Unit → Option α} {K : α → Option β} {r : β} (H : ((rhoM ρ).bind F).bind K = some r) : IsRho := trivial
theorem rhoS {P : Program} {f : FuncId} {ps : List PV} {io : Bool} {wd ν : Nat} {m : Mem} {KA : PV → Mem → Prop} (h : IsRho) (hk : pCall P io wd ν f ps m KA) : pCall P io wd ν f ps m KA := hk
theorem rhoSD {P : Program} {f : FuncId} {ps : List PV} {wd ν : Nat} {m : Mem} {KA : List Nat → PV → Mem → Prop} (h : IsRho) (hk : pIO P wd ν f ps m KA) : pIO P wd ν f ps m KA := hk
theorem inRows_nil {σ : Nat → Nat} {m : Mem} {n : Nat} : inRows σ m n [] [] := trivial
theorem lowC_isC {n : Nat} {p : PV} (h : isC p = true) : lowC n p = true := by
  cases p with
  | fn f cs =>
    simp only [isC, List.all_eq_true] at h
    simp only [lowC, List.all_eq_true]
    intro c hc
    have := h c hc
    cases c <;> simp_all [isC1, low1]
  | _ => simp_all [isC, isC1, lowC, low1]
theorem inRows_map {α : Type} {f : α → List PV} [hf : PlainC f] {σ : Nat → Nat} {m : Mem} {n l T k : Nat} {xs : List α} {ρ : List Nat} {m0 : Mem} (hl : look m l = some ⟨T, k, xs.map f⟩) (h : inRows σ m n ρ m0) : inRows σ m n (l :: ρ) (some ⟨T, k, xs.map f⟩ :: m0) := by
  refine ⟨?_, fun cs hcs p hp => ?_, h⟩
  · rw [look_iff.1 hl]
    simp only [renMB, renEs_map]
  · obtain ⟨x, _, rfl⟩ := List.mem_map.1 hcs
    exact ⟨goodC_of (hf.h x p hp), lowC_isC (hf.h x p hp)⟩
theorem inRows_one {σ : Nat → Nat} {m : Mem} {n l T k : Nat} {cs cs' : List PV} {ρ : List Nat} {m0 : Mem} (hl : look m l = some ⟨T, k, [cs']⟩) (hc : cs' = cs.map (renC σ)) (hg : ∀ p ∈ cs, goodC false p ∧ lowC n p = true) (h : inRows σ m n ρ m0) : inRows σ m n (l :: ρ) (some ⟨T, k, [cs]⟩ :: m0) := by
  subst hc
  refine ⟨look_iff.1 hl, fun ds hds p hp => ?_, h⟩
  obtain rfl : ds = cs := by simpa using hds
  exact hg p hp
@[irreducible] def jn {ο α : Type} (i j : Nat) (J : Option (ο ⊕ α)) (T : ο → List PV) (M : ο → Mem) : Option (ο ⊕ α) := J
def hdC : Code → Bool
  | .region _ _ _ => true
  | .loop _ => true
  | .seq a _ => hdC a
  | .block _ c => hdC c
  | _ => false
def idC : Code → Nat
  | .region i _ _ => i
  | .loop c => idC c
  | .seq a _ => idC a
  | .block _ c => idC c
  | _ => 0
theorem pwp_cutC {P : Program} {n0 : Nat} : ∀ (c : Code), hdC c = true → ∀ {Q : Exit → List PV → Mem → Prop} {t T : List PV} {m M : Mem}, Cuts n0 t m T M → pwp P n0 c Q T M → pwp P n0 c Q t m
  | .region i ops draw, _, Q, t, T, m, M, hc, h => by
    rcases h with h | ⟨t1, m1, h1, h2⟩
    · exact .inr ⟨T, M, hc, h⟩
    · exact .inr ⟨t1, m1, hc.trans h1, h2⟩
  | .loop c, _, Q, t, T, m, M, hc, h => by
    obtain ⟨I, n, t0, m0, h1, h2⟩ := h
    exact ⟨I, n, t0, m0, hc.trans h1, h2⟩
  | .seq a b, hd, Q, t, T, m, M, hc, h => pwp_cutC a hd hc h
  | .block i c, hd, Q, t, T, m, M, hc, h => pwp_cutC c hd hc h
theorem pwp_jn {P : Program} {n0 : Nat} {Q : Exit → List PV → Mem → Prop} {t : List PV} {m : Mem} {a b : Code} {ο α β γ : Type} {J : Option (ο ⊕ α)} {T : ο → List PV} {M : ο → Mem} {G : ο → Option β} {F : α → Option β} {K : β → Option γ} {r : γ}
    {i j : Nat} (H : ((jn i j J T M).bind (selim G F)).bind K = some r) (hd : hdC b = true) (hi : (idC a == i && idC b == j) = true)
    (h1 : ∀ K' : List PV → Mem → Prop, (∀ o t' m', (G o).bind K = some r → Cuts n0 t' m' (T o) (M o) → K' t' m') → J.bind (selim (fun o => (G o).bind K) (fun v => (F v).bind K)) = some r → pwp P n0 a (thenP K' Q) t m)
    (h2 : ∀ o, (G o).bind K = some r → pwp P n0 b Q (T o) (M o)) : pwp P n0 (.seq a b) Q t m := by
  unfold jn at H
  refine h1 (fun t m => pwp P n0 b Q t m) (fun o t' m' h hc => pwp_cutC b hd hc (h2 o h)) ?_
  cases J with
  | none => cases H
  | some x => cases x <;> exact H
theorem jnX {ο α β : Type} {n0 : Nat} {s : ο} {F : ο → Option β} {K : α → Option β} {r : β} {Kp : List PV → Mem → Prop} {T : ο → List PV} {M : ο → Mem} {t : List PV} {m : Mem} (H : (some (Sum.inl s)).bind (selim F K) = some r) (hL : ∀ o t' m', F o = some r → Cuts n0 t' m' (T o) (M o) → Kp t' m') (hc : Cuts n0 t m (T s) (M s)) : Kp t m := hL s t m H hc
def IsJn : Prop := True
theorem jnH {ο α β γ : Type} {i j : Nat} {J : Option (ο ⊕ α)} {T : ο → List PV} {M : ο → Mem} {G : (ο ⊕ α) → Option β} {K : β → Option γ} {r : γ} (H : ((jn i j J T M).bind G).bind K = some r) : IsJn := trivial
theorem jnS {P : Program} {n0 : Nat} {Q : Exit → List PV → Mem → Prop} {t : List PV} {m : Mem} {a b : Code} (h : IsJn) (hk : pwp P n0 (.seq a b) Q t m) : pwp P n0 (.seq a b) Q t m := hk
theorem thenP_thenP {K K2 : List PV → Mem → Prop} {Q : Exit → List PV → Mem → Prop} : thenP K (thenP K2 Q) = thenP K Q := by
  funext e t m
  cases e <;> rfl
theorem pwp_assoc {P : Program} {n0 : Nat} {Q : Exit → List PV → Mem → Prop} {t : List PV} {m : Mem} {a b c : Code} (h : pwp P n0 (.seq (.seq a b) c) Q t m) : pwp P n0 (.seq a (.seq b c)) Q t m := by
  have e : pwp P n0 (.seq (.seq a b) c) Q t m = pwp P n0 a (thenP (fun t m => pwp P n0 b (thenP (fun t m => pwp P n0 c Q t m) Q) t m) (thenP (fun t m => pwp P n0 c Q t m) Q)) t m := by simp only [pwp]
  rw [e, thenP_thenP] at h
  simp only [pwp]
  exact h
theorem pwp_jn2 {P : Program} {n0 : Nat} {Q : Exit → List PV → Mem → Prop} {t : List PV} {m : Mem} {a b c : Code} {ο α β γ : Type} {J : Option (ο ⊕ α)} {T : ο → List PV} {M : ο → Mem} {G : ο → Option β} {F : α → Option β} {K : β → Option γ} {r : γ}
    {i j : Nat} (H : ((jn i j J T M).bind (selim G F)).bind K = some r) (hd : hdC c = true) (hi : (idC a == i && idC c == j) = true)
    (h1 : ∀ K' : List PV → Mem → Prop, (∀ o t' m', (G o).bind K = some r → Cuts n0 t' m' (T o) (M o) → K' t' m') → J.bind (selim (fun o => (G o).bind K) (fun v => (F v).bind K)) = some r → pwp P n0 (.seq a b) (thenP K' Q) t m)
    (h2 : ∀ o, (G o).bind K = some r → pwp P n0 c Q (T o) (M o)) : pwp P n0 (.seq a (.seq b c)) Q t m := pwp_assoc (pwp_jn H hd hi h1 h2)
inductive SubC : PV → PV → Prop
  | r (p : PV) : SubC p p
  | nil (c : Nat) : SubC (.v (.slice none 0 c)) (.sl [])
  | un (p : PV) : SubC p .un
inductive SubL : List PV → List PV → Prop
  | n : SubL [] []
  | c {p q : PV} {ps qs : List PV} (h : SubC p q) (k : SubL ps qs) : SubL (p :: ps) (q :: qs)
inductive SubV : PV → PV → Prop
  | c {p q : PV} (h : SubC p q) : SubV p q
  | ag {cs ds : List PV} (h : SubL cs ds) : SubV (.ag cs) (.ag ds)
inductive SubA : List PV → List PV → Prop
  | n : SubA [] []
  | c {p q : PV} {ps qs : List PV} (h : SubV p q) (k : SubA ps qs) : SubA (p :: ps) (q :: qs)
theorem SubC.rep {w : World} {E : Env} {p q : PV} {x : Value} (h : SubC p q) (hr : Rep w E p x) : Rep w E q x := by
  cases h with
  | r => exact hr
  | nil c =>
    cases hr with
    | c h => cases h with
      | v _ _ => exact .c (.nil none c)
  | un => exact .c (.un x)
theorem SubL.len {cs ds : List PV} (h : SubL cs ds) : cs.length = ds.length := by
  induction h with
  | n => rfl
  | c _ _ ih => simp [ih]
theorem SubL.get {cs ds : List PV} (h : SubL cs ds) : ∀ (j : Nat) (q : PV), ds[j]? = some q → ∃ p, cs[j]? = some p ∧ SubC p q := by
  induction h with
  | n => intro j q hq; simp at hq
  | c h k ih =>
    intro j q hq
    cases j with
    | zero => simp at hq; subst hq; exact ⟨_, by simp, h⟩
    | succ j => simpa using ih j q (by simpa using hq)
theorem SubV.rep {w : World} {E : Env} {p q : PV} {x : Value} (h : SubV p q) (hr : Rep w E p x) : Rep w E q x := by
  cases h with
  | c h => exact h.rep hr
  | ag h =>
    obtain ⟨vs, rfl, hl, h1, hc⟩ := Rep.ag_inv hr
    exact .ag _ vs (by rw [hl, h.len]) h1 fun j p y hp hy => by
      obtain ⟨p', hp', hs⟩ := h.get j p hp
      exact hs.rep (hc j p' y hp' hy)
theorem SubA.len {cs ds : List PV} (h : SubA cs ds) : cs.length = ds.length := by
  induction h with
  | n => rfl
  | c _ _ ih => simp [ih]
theorem SubA.get {cs ds : List PV} (h : SubA cs ds) : ∀ (j : Nat) (q : PV), ds[j]? = some q → ∃ p, cs[j]? = some p ∧ SubV p q := by
  induction h with
  | n => intro j q hq; simp at hq
  | c h k ih =>
    intro j q hq
    cases j with
    | zero => simp at hq; subst hq; exact ⟨_, by simp, h⟩
    | succ j => simpa using ih j q (by simpa using hq)
theorem CallM.weak {P : Program} {f : FuncId} {ps qs : List PV} {m0 : Mem} {r : PV} {m1 : Mem} (h : CallM P f qs m0 r m1) (hs : SubA ps qs) : CallM P f ps m0 r m1 := by
  intro S β w vs ω hok hl ha
  refine h S β w vs ω hok (by rw [hl, hs.len]) fun i q hq => ?_
  obtain ⟨p, hp, hv⟩ := hs.get i q hq
  obtain ⟨x, hx, hr⟩ := ha i p hp
  exact ⟨x, hx, hv.rep hr⟩
def isCM : PV → Bool
  | .ms _ => true
  | p => isC p
def isCAM : PV → Bool
  | .ag cs => cs.all isCM
  | .tu _ => false
  | p => isCM p
theorem goodM_of {p : PV} (h : isCM p = true) : goodC false p := by
  cases p with
  | ms l => simp [goodC]
  | _ => exact goodC_of h
theorem gV_agM {cs : List PV} (h : cs.all isCM = true) : goodV false (.ag cs) := fun c hc => goodM_of (List.all_eq_true.1 h c hc)
theorem gV_tuM {ps : List PV} (h : ps.all isCAM = true) : goodV false (.tu ps) := by
  intro c hc
  have := List.all_eq_true.1 h c hc
  cases c with
  | ag cs => exact fun d hd => goodM_of (List.all_eq_true.1 this d hd)
  | tu vs => simp [isCAM] at this
  | fn f cs => exact goodC_of (c := .fn f cs) this
  | _ => simp [goodA, goodC]
theorem cutC_nilsl0 {m m' : Mem} {ρ : Nat → Option Nat} {c : Nat} : CutC ρ m m' (.v (.slice none 0 c)) (.sl []) := .nilsl c
theorem rowsOk_new0 {m m' : Mem} {rs rr : List (Option Nat)} {T k : Nat} {mm : Mem} (hk : decide (0 < k) = true) (h : rowsOk rs m m' rr mm) : rowsOk rs m m' (none :: rr) (some ⟨T, k, []⟩ :: mm) := ⟨⟨rfl, of_decide_eq_true hk⟩, h⟩
theorem lowB_0 {i : Nat} {rs : List (Option Nat)} {m : Mem} : lowB 0 i rs m = true := rfl
theorem lowB_c {n i : Nat} {rs : List (Option Nat)} {mb : MB} {m : Mem} (h : lowB n (i + 1) rs m = true) : lowB (n + 1) i (some i :: rs) (some mb :: m) = true := by simp [lowB, h]
theorem lowB_d {n i : Nat} {rs : List (Option Nat)} {m : Mem} (h : lowB n (i + 1) rs m = true) : lowB (n + 1) i (none :: rs) (none :: m) = true := by simpa [lowB] using h
theorem cutL_0 {n0 : Nat} {t t' : List PV} {m : Mem} (hl : lowB n0 0 [] [] = true) (hT : cutT (rho []) m [] t t') (hM : rowsOk [] m [] [] []) (hi : injB [] = true) : Cuts n0 t m t' [] := cut_mk hT hM hi hl
theorem cutL_1 {n0 : Nat} {t t' : List PV} {m : Mem} {a : Option MB} (r0 : Option Nat) (hl : lowB n0 0 [r0] [a] = true) (hT : cutT (rho [r0]) m [a] t t') (hM : rowsOk [r0] m [a] [r0] [a]) (hi : injB [r0] = true) : Cuts n0 t m t' [a] := cut_mk hT hM hi hl
theorem cutL_2 {n0 : Nat} {t t' : List PV} {m : Mem} {a b : Option MB} (r0 r1 : Option Nat) (hl : lowB n0 0 [r0, r1] [a, b] = true) (hT : cutT (rho [r0, r1]) m [a, b] t t') (hM : rowsOk [r0, r1] m [a, b] [r0, r1] [a, b]) (hi : injB [r0, r1] = true) : Cuts n0 t m t' [a, b] := cut_mk hT hM hi hl
theorem cutL_3 {n0 : Nat} {t t' : List PV} {m : Mem} {a b c : Option MB} (r0 r1 r2 : Option Nat) (hl : lowB n0 0 [r0, r1, r2] [a, b, c] = true) (hT : cutT (rho [r0, r1, r2]) m [a, b, c] t t') (hM : rowsOk [r0, r1, r2] m [a, b, c] [r0, r1, r2] [a, b, c]) (hi : injB [r0, r1, r2] = true) : Cuts n0 t m t' [a, b, c] := cut_mk hT hM hi hl
theorem cutL_4 {n0 : Nat} {t t' : List PV} {m : Mem} {a b c d : Option MB} (r0 r1 r2 r3 : Option Nat) (hl : lowB n0 0 [r0, r1, r2, r3] [a, b, c, d] = true) (hT : cutT (rho [r0, r1, r2, r3]) m [a, b, c, d] t t') (hM : rowsOk [r0, r1, r2, r3] m [a, b, c, d] [r0, r1, r2, r3] [a, b, c, d]) (hi : injB [r0, r1, r2, r3] = true) : Cuts n0 t m t' [a, b, c, d] := cut_mk hT hM hi hl
theorem cutL_5 {n0 : Nat} {t t' : List PV} {m : Mem} {a b c d e : Option MB} (r0 r1 r2 r3 r4 : Option Nat) (hl : lowB n0 0 [r0, r1, r2, r3, r4] [a, b, c, d, e] = true) (hT : cutT (rho [r0, r1, r2, r3, r4]) m [a, b, c, d, e] t t') (hM : rowsOk [r0, r1, r2, r3, r4] m [a, b, c, d, e] [r0, r1, r2, r3, r4] [a, b, c, d, e]) (hi : injB [r0, r1, r2, r3, r4] = true) : Cuts n0 t m t' [a, b, c, d, e] := cut_mk hT hM hi hl
theorem cutL_6 {n0 : Nat} {t t' : List PV} {m : Mem} {a b c d e f : Option MB} (r0 r1 r2 r3 r4 r5 : Option Nat) (hl : lowB n0 0 [r0, r1, r2, r3, r4, r5] [a, b, c, d, e, f] = true) (hT : cutT (rho [r0, r1, r2, r3, r4, r5]) m [a, b, c, d, e, f] t t') (hM : rowsOk [r0, r1, r2, r3, r4, r5] m [a, b, c, d, e, f] [r0, r1, r2, r3, r4, r5] [a, b, c, d, e, f]) (hi : injB [r0, r1, r2, r3, r4, r5] = true) : Cuts n0 t m t' [a, b, c, d, e, f] := cut_mk hT hM hi hl
theorem cutL_7 {n0 : Nat} {t t' : List PV} {m : Mem} {a b c d e f g : Option MB} (r0 r1 r2 r3 r4 r5 r6 : Option Nat) (hl : lowB n0 0 [r0, r1, r2, r3, r4, r5, r6] [a, b, c, d, e, f, g] = true) (hT : cutT (rho [r0, r1, r2, r3, r4, r5, r6]) m [a, b, c, d, e, f, g] t t') (hM : rowsOk [r0, r1, r2, r3, r4, r5, r6] m [a, b, c, d, e, f, g] [r0, r1, r2, r3, r4, r5, r6] [a, b, c, d, e, f, g]) (hi : injB [r0, r1, r2, r3, r4, r5, r6] = true) : Cuts n0 t m t' [a, b, c, d, e, f, g] := cut_mk hT hM hi hl
theorem cutL_8 {n0 : Nat} {t t' : List PV} {m : Mem} {a b c d e f g h : Option MB} (r0 r1 r2 r3 r4 r5 r6 r7 : Option Nat) (hl : lowB n0 0 [r0, r1, r2, r3, r4, r5, r6, r7] [a, b, c, d, e, f, g, h] = true) (hT : cutT (rho [r0, r1, r2, r3, r4, r5, r6, r7]) m [a, b, c, d, e, f, g, h] t t') (hM : rowsOk [r0, r1, r2, r3, r4, r5, r6, r7] m [a, b, c, d, e, f, g, h] [r0, r1, r2, r3, r4, r5, r6, r7] [a, b, c, d, e, f, g, h]) (hi : injB [r0, r1, r2, r3, r4, r5, r6, r7] = true) : Cuts n0 t m t' [a, b, c, d, e, f, g, h] := cut_mk hT hM hi hl
theorem cutL_9 {n0 : Nat} {t t' : List PV} {m : Mem} {a b c d e f g h i : Option MB} (r0 r1 r2 r3 r4 r5 r6 r7 r8 : Option Nat) (hl : lowB n0 0 [r0, r1, r2, r3, r4, r5, r6, r7, r8] [a, b, c, d, e, f, g, h, i] = true) (hT : cutT (rho [r0, r1, r2, r3, r4, r5, r6, r7, r8]) m [a, b, c, d, e, f, g, h, i] t t') (hM : rowsOk [r0, r1, r2, r3, r4, r5, r6, r7, r8] m [a, b, c, d, e, f, g, h, i] [r0, r1, r2, r3, r4, r5, r6, r7, r8] [a, b, c, d, e, f, g, h, i]) (hi : injB [r0, r1, r2, r3, r4, r5, r6, r7, r8] = true) : Cuts n0 t m t' [a, b, c, d, e, f, g, h, i] := cut_mk hT hM hi hl
theorem cutL_10 {n0 : Nat} {t t' : List PV} {m : Mem} {a b c d e f g h i j : Option MB} (r0 r1 r2 r3 r4 r5 r6 r7 r8 r9 : Option Nat) (hl : lowB n0 0 [r0, r1, r2, r3, r4, r5, r6, r7, r8, r9] [a, b, c, d, e, f, g, h, i, j] = true) (hT : cutT (rho [r0, r1, r2, r3, r4, r5, r6, r7, r8, r9]) m [a, b, c, d, e, f, g, h, i, j] t t') (hM : rowsOk [r0, r1, r2, r3, r4, r5, r6, r7, r8, r9] m [a, b, c, d, e, f, g, h, i, j] [r0, r1, r2, r3, r4, r5, r6, r7, r8, r9] [a, b, c, d, e, f, g, h, i, j]) (hi : injB [r0, r1, r2, r3, r4, r5, r6, r7, r8, r9] = true) : Cuts n0 t m t' [a, b, c, d, e, f, g, h, i, j] := cut_mk hT hM hi hl
theorem cutL_11 {n0 : Nat} {t t' : List PV} {m : Mem} {a b c d e f g h i j k : Option MB} (r0 r1 r2 r3 r4 r5 r6 r7 r8 r9 r10 : Option Nat) (hl : lowB n0 0 [r0, r1, r2, r3, r4, r5, r6, r7, r8, r9, r10] [a, b, c, d, e, f, g, h, i, j, k] = true) (hT : cutT (rho [r0, r1, r2, r3, r4, r5, r6, r7, r8, r9, r10]) m [a, b, c, d, e, f, g, h, i, j, k] t t') (hM : rowsOk [r0, r1, r2, r3, r4, r5, r6, r7, r8, r9, r10] m [a, b, c, d, e, f, g, h, i, j, k] [r0, r1, r2, r3, r4, r5, r6, r7, r8, r9, r10] [a, b, c, d, e, f, g, h, i, j, k]) (hi : injB [r0, r1, r2, r3, r4, r5, r6, r7, r8, r9, r10] = true) : Cuts n0 t m t' [a, b, c, d, e, f, g, h, i, j, k] := cut_mk hT hM hi hl
theorem cutL_12 {n0 : Nat} {t t' : List PV} {m : Mem} {a b c d e f g h i j k l : Option MB} (r0 r1 r2 r3 r4 r5 r6 r7 r8 r9 r10 r11 : Option Nat) (hl : lowB n0 0 [r0, r1, r2, r3, r4, r5, r6, r7, r8, r9, r10, r11] [a, b, c, d, e, f, g, h, i, j, k, l] = true) (hT : cutT (rho [r0, r1, r2, r3, r4, r5, r6, r7, r8, r9, r10, r11]) m [a, b, c, d, e, f, g, h, i, j, k, l] t t') (hM : rowsOk [r0, r1, r2, r3, r4, r5, r6, r7, r8, r9, r10, r11] m [a, b, c, d, e, f, g, h, i, j, k, l] [r0, r1, r2, r3, r4, r5, r6, r7, r8, r9, r10, r11] [a, b, c, d, e, f, g, h, i, j, k, l]) (hi : injB [r0, r1, r2, r3, r4, r5, r6, r7, r8, r9, r10, r11] = true) : Cuts n0 t m t' [a, b, c, d, e, f, g, h, i, j, k, l] := cut_mk hT hM hi hl
theorem goodD_cells {b : Bool} {T k : Nat} {es : List (List PV)} (h : ∀ cs ∈ es, ∀ p ∈ cs, goodC b p) : ∀ mb, some mb ∈ ([some ⟨T, k, es⟩] : Mem) → ∀ cs ∈ mb.es, ∀ p ∈ cs, goodC b p := by
  intro mb hm
  simp only [List.mem_singleton, Option.some.injEq] at hm
  subst hm
  exact h
theorem hm_none {m : Mem} {b : Bool} (h2 : ∀ mb, some mb ∈ m → ∀ cs ∈ mb.es, ∀ p ∈ cs, goodC b p) : ∀ mb, some mb ∈ ((none : Option MB) :: m) → ∀ cs ∈ mb.es, ∀ p ∈ cs, goodC b p := by
  intro mb h
  rcases List.mem_cons.1 h with h | h
  · cases h
  · exact h2 mb h
theorem hm_e {T k : Nat} {b : Bool} : ∀ mb, some mb ∈ ([some ⟨T, k, []⟩] : Mem) → ∀ cs ∈ mb.es, ∀ p ∈ cs, goodC b p := goodD_cells (by simp)
theorem Hnone {α β : Type} {K : α → Option β} {r : β} (h : (none : Option α).bind K = some r) : False := by cases h
set_option maxRecDepth 4000
theorem cutC_fnL {ρ : Nat → Option Nat} {m m' : Mem} {f : FuncId} {cs ds : List PV} (h : cutL ρ m m' cs ds) : CutC ρ m m' (.fn f cs) (.fn f ds) := by
  have key : ∀ (cs ds : List PV), cutL ρ m m' cs ds → ds.length = cs.length ∧ ∀ (j : Nat) (p r : PV), cs[j]? = some p → ds[j]? = some r → CutC ρ m m' p r := by
    intro cs
    induction cs with
    | nil => intro ds h; cases ds with
      | nil => exact ⟨rfl, by simp⟩
      | cons d ds => exact h.elim
    | cons c cs ih => intro ds h; cases ds with
      | nil => exact h.elim
      | cons d ds =>
        obtain ⟨h1, h2⟩ := h
        obtain ⟨k1, k2⟩ := ih ds h2
        refine ⟨by simp [k1], fun j p r hp hr => ?_⟩
        cases j with
        | zero => simp at hp hr; subst hp hr; exact h1
        | succ j => simp at hp hr; exact k2 j p r hp hr
  obtain ⟨a, b⟩ := key cs ds h
  exact .fn f cs ds a b
theorem idxmapN {α : Type} {xs : List α} {n : Nat} {y : α} {c : α → List PV} (h : getI xs (n : Int) = some y) : (xs.map c)[n]? = some (c y) := by
  unfold getI at h
  rw [if_pos (Int.natCast_nonneg n), Int.toNat_natCast] at h
  rw [List.getElem?_map, h]; rfl
theorem lit3 {a b c i y : Int} (h : getI [a, b, c] i = some y) : ([[PV.v (.int .i64 a)], [PV.v (.int .i64 b)], [PV.v (.int .i64 c)]] : List (List PV))[i.toNat]? = some [PV.v (.int .i64 y)] := by
  have : ([[PV.v (.int .i64 a)], [PV.v (.int .i64 b)], [PV.v (.int .i64 c)]] : List (List PV)) = [a, b, c].map cInt := rfl
  rw [this]; exact idxmap h
theorem lit3s {a b c y : ByteArray} {i : Int} (h : getI [a, b, c] i = some y) : ([[PV.v (.string a)], [PV.v (.string b)], [PV.v (.string c)]] : List (List PV))[i.toNat]? = some [PV.v (.string y)] := by
  have : ([[PV.v (.string a)], [PV.v (.string b)], [PV.v (.string c)]] : List (List PV)) = [a, b, c].map cStr := rfl
  rw [this]; exact idxmap h
theorem pDyn_fn {P : Program} {io : Bool} {wd ν : Nat} {f : FuncId} {cs ps : List PV} {m : Mem} {K : PV → Mem → Prop} (h1 : ∀ c ∈ cs, isR c = true) (h2 : isFn P f) (h3 : pCall P io wd ν f (ps ++ cs) m K) : pDyn P io wd ν (.fn f cs) ps m K := ⟨h1, h2, h3⟩
def cIntS (x : List Int) : List PV := [.sl (x.map cInt)]
instance : EncOf (List Int) := ⟨cIntS⟩
instance : PlainC cIntS := ⟨fun x q h => by simp only [cIntS, List.mem_singleton] at h; subst h; rfl⟩
attribute [go_sem] cIntS
theorem xc {p : Prop} (h : p := by (try simp only [U_s, U_z]); (with_reducible refine cutS ?_); (first | (with_reducible apply cutL_0) | (with_reducible apply cutL_1) | (with_reducible apply cutL_2) | (with_reducible apply cutL_3) | (with_reducible apply cutL_4) | (with_reducible apply cutL_5) | (with_reducible apply cutL_6) | (with_reducible apply cutL_7) | (with_reducible apply cutL_8) | (with_reducible apply cutL_9) | (with_reducible apply cutL_10) | (with_reducible apply cutL_11) | (with_reducible apply cutL_12)); (repeat' (first       | (with_reducible exact lowB_0) | (with_reducible refine lowB_c ?_) | (with_reducible refine lowB_d ?_) | (with_reducible refine cutT_un ?_)       | (with_reducible refine cutT_c ?_ ?_)       | (with_reducible exact cutT_nil)       | (with_reducible exact cutV_c rfl)       | exact cutV_c rfl       | (with_reducible exact cutL_nil)       | (with_reducible refine cutL_c ?_ ?_)       | exact .c _ rfl       | exact .un _       | exact cutC_ms rfl rfl       | exact cutC_be rfl rfl       | exact cutC_nilsl0 | exact cutC_nilsl       | exact cutC_nilms rfl rfl       | (refine cutC_fms rfl ?_) | (refine cutC_fmso rfl rfl ?_) | (refine cutC_fss rfl rfl rfl ?_)       | (refine cutC_fbe rfl rfl ?_)       | (with_reducible refine cutC_fnL ?_) | (with_reducible refine cutV_ag ?_)       | (with_reducible refine cutV_tu ?_)       | (with_reducible exact cutAs_nil)       | (with_reducible refine cutAs_c ?_ ?_)       | (with_reducible refine cutA_ag ?_)       | (with_reducible refine cutA_k ?_)       | (with_reducible refine cutV_k ?_)       | (with_reducible exact rowsOk_nil)       | (refine rowsOk_live rfl ?_ ?_)       | (refine rowsOk_new0 rfl ?_) | (refine rowsOk_new rfl ?_)       | (with_reducible refine rowsOk_dead ?_)       | (with_reducible refine cutB_one ?_)       | (with_reducible exact cutB_nil)       | (with_reducible refine cutB_two ?_)       | (with_reducible exact cutE_n)       | (with_reducible refine cutE_c ?_ ?_)       | (with_reducible exact cutB_same)       | (with_reducible refine cutB_set ?_)       | exact cutB_same       | (refine cutB_set ?_)       | (refine cutB_rep ?_)       | (refine cutB_snoc ?_)       | (simp only [cInt, cStr, cBool, cB8, cl1Cur, cLabel, cParcel, cZone, cRate, cLeg, cNetwork, cTrip, cBooking, cScan, cOrder, cWorld, cLine, cAct, cOffice, cItem, cChute, cInlet, cCentre, cThing, cBelief])       | (with_unfolding_all rfl))); (all_goals first | (exact dropped_of rfl) | exact none); (first | done | fail)) : p := h
theorem xf {p : Prop} (h : p := by (first | exact hm_nil | (repeat (first | exact hm_one | exact hm_oneT | exact hm_e | (refine hm_c hm_one ?_) | (refine hm_c hm_oneT ?_) | (refine hm_c hm_e ?_) | exact goodD_cells (by simp [goodC, isR]) | (refine hm_none ?_) | (refine hm_c (goodD_cells (by simp [goodC, isR])) ?_)))); (first | done | fail)) : p := h
theorem xs {p : Prop} (h : p := by ((refine CallM.weak (CT.ok hy) ?_); (repeat' (first | exact SubA.n | (refine SubA.c ?_ ?_) | exact SubV.c (SubC.r _) | (refine SubV.ag ?_) | exact SubL.n | (refine SubL.c ?_ ?_) | exact SubC.r _ | exact SubC.nil _ | exact SubC.un _))); (first | done | fail)) : p := h
theorem wk3 {p : Prop} (h : p := by
  (simp only [List.length_cons, List.length_nil, Nat.reduceAdd, Nat.reduceSub, List.replicate_succ, List.replicate_zero, List.cons_append, List.nil_append, go_sem]);
  repeat' (first
    | ((with_reducible refine pDyn_fn ?_ ?_ ?_); (focus (simp [isR])); (focus (simp only [go_sem])); (simp only [List.cons_append, List.nil_append]))
    | ((with_reducible refine pwp_drwL H rfl (by kernel_rfl) ?_); (clear H; intro H; simp only [go_sem, Nat.reduceAdd, Nat.reduceSub, Nat.reduceMul, Nat.reduceLT, Nat.reduceLeDiff, Nat.reduceEqDiff, if_true, eq_self]))
    | ((with_reducible refine rhoSD (rhoH H) ?_); (refine call_ioD H rfl rfl ?_ ?_ ?_ ?_ ?_ ?_ ?_ ?_); (focus (first | rfl | (simp only [CT.args, List.map_cons, List.map_nil, renA, renC, ren1, sig_z, sig_s, sig_n]; done))); (focus (simp [CT.args, CT.m0, goodA, goodC, lowA, lowC, low1, isR])); (focus (first | exact List.nodup_nil | decide)); (focus ((simp only [CT.m0]); (repeat' (first | exact inRows_nil | (refine inRows_map (by rfl) ?_) | (refine inRows_one (by rfl) (by rfl) (by simp [goodC, lowC, low1, isR]) ?_))))); (focus (intro y_; simp [CT.mem, CT.m0])); (focus (intro y_; (simp only [CT.mem]); (repeat (first | exact hm_nil | exact hm_one | exact hm_oneT | (refine hm_c hm_one ?_) | (refine hm_c (goodD_cells (by simp [goodC, isR])) ?_) | exact goodD_cells (by simp [goodC, isR]) | (refine hm_none ?_))))); (focus (intro y_; (simp [CT.res, goodV, goodA, goodC, isR]))); (clear H; intro y_ hy H; simp only [CT.res, CT.mem, putIn, List.drop_succ_cons, List.drop_zero, Option.map_none, go_sem, Nat.reduceAdd, Nat.reduceSub, Nat.reduceMul, Nat.reduceLT, Nat.reduceLeDiff, Nat.reduceEqDiff, if_true, eq_self]))
    | ((with_reducible refine jnS (jnH H) ?_); (first | ((refine pwp_jn2 H ?_ ?_ (fun K_ hL H => ?_) (fun o_ H => ?_)); (focus (decide +kernel)); (focus (decide +kernel))) | ((refine pwp_jn H ?_ ?_ (fun K_ hL H => ?_) (fun o_ H => ?_)); (focus (decide +kernel)); (focus (decide +kernel)))))
    | ((with_reducible refine rhoS (rhoH H) ?_); (refine call_io H rfl rfl rfl ?_ ?_ ?_ ?_ ?_ ?_ ?_ ?_); (focus (first | rfl | (simp only [CT.args, List.map_cons, List.map_nil, renA, renC, ren1, sig_z, sig_s, sig_n]; done))); (focus (simp [CT.args, CT.m0, goodA, goodC, lowA, lowC, low1, isR])); (focus (first | exact List.nodup_nil | decide)); (focus ((simp only [CT.m0]); (repeat' (first | exact inRows_nil | (refine inRows_map (by rfl) ?_) | (refine inRows_one (by rfl) (by rfl) (by simp [goodC, lowC, low1, isR]) ?_))))); (focus (intro y_; simp [CT.mem, CT.m0])); (focus (intro y_; (simp only [CT.mem]); (repeat (first | exact hm_nil | exact hm_one | exact hm_oneT | (refine hm_c hm_one ?_) | (refine hm_c (goodD_cells (by simp [goodC, isR])) ?_) | exact goodD_cells (by simp [goodC, isR]) | (refine hm_none ?_))))); (focus (intro y_; (simp [CT.res, goodV, goodA, goodC, isR]))); (clear H; intro y_ hy H; simp only [CT.res, CT.mem, putIn, List.drop_succ_cons, List.drop_zero, Option.map_none, go_sem, Nat.reduceAdd, Nat.reduceSub, Nat.reduceMul, Nat.reduceLT, Nat.reduceLeDiff, Nat.reduceEqDiff, if_true, eq_self]))
    | ((with_reducible refine pwp_frzL H ?_ ?_); (focus (exact xc)); (clear H; intro z_ H))
    | ((with_reducible refine pwp_frz H ?_ ?_); (focus (exact xc)); (clear H; intro H))
    | ((with_reducible refine pwp_seq ?_); intro K_ hK)
    | ((with_reducible refine pwp_block ?_))
    | ((with_reducible refine pwp_region ?_); simp only [go_sem, Nat.reduceAdd, Nat.reduceSub, Nat.reduceMul, Nat.reduceLT, Nat.reduceLeDiff, Nat.reduceEqDiff, if_true, eq_self])
    | ((with_reducible refine pwp_skip ?_); (try simp only [thenP_normal, blockP_normal]))
    | ((with_reducible refine pwp_exit ?_); (simp only [thenP_exit, blockP_exit, thenP_normal, blockP_normal, if_true, if_false, eq_self, Nat.reduceEqDiff, Nat.one_ne_zero, Nat.zero_ne_one]); (try simp only [bexR, bsr, bsl] at H))
    | ((with_reducible refine pwp_ret ?_); (try simp only [thenP_ret, blockP_ret]))
    | ((with_reducible refine hQ _ _ ?_); (try simp only [bexR, bsr, bsl] at H); replace H := Hret H; subst H; simp only [Fin, resP, oneP, go_sem, Nat.reduceAdd, Nat.reduceSub, Nat.reduceMul, Nat.reduceLT, Nat.reduceLeDiff, Nat.reduceEqDiff, if_true, eq_self]; exact xc)
    | ((with_reducible refine hQn _ _ ?_); (try simp only [bexR, bsr, bsl] at H); replace H := Hret H; subst H; simp only [Fin, resP, oneP, go_sem, Nat.reduceAdd, Nat.reduceSub, Nat.reduceMul, Nat.reduceLT, Nat.reduceLeDiff, Nat.reduceEqDiff, if_true, eq_self]; exact xc)
    | ((with_reducible refine gateS ?_); (refine gate2_intro (fun hg => Hc1k H hg ?_) (fun hg => Hc2k H hg ?_)) <;> (clear H; intro H; simp only [go_sem, Nat.reduceAdd, Nat.reduceSub, Nat.reduceMul, Nat.reduceLT, Nat.reduceLeDiff, Nat.reduceEqDiff, if_true, eq_self]))
    | ((with_reducible refine pwp_condE ?_); simp only [evP_tmp, getD_z, getD_s, evP_bool]; (first | (with_reducible refine condP_tt ?_) | (with_reducible refine condP_ff ?_) | ((refine condP_intro (fun hg => Hc1k H hg ?_) (fun hg => Hc2k H hg ?_)) <;> (clear H; intro H))))
    | ((with_reducible refine idxS ?_); replace H := Hcall H; obtain ⟨y_, hy, H⟩ := H; (with_reducible apply idx_sl hy); (focus (first | (simp only [go_sem]; done) | (simp only [go_sem]; decide))); (focus (first | rfl | (simp only [go_sem]; rfl))); simp only [go_sem, Nat.reduceAdd, Nat.reduceSub, Nat.reduceMul, Nat.reduceLT, Nat.reduceLeDiff, Nat.reduceEqDiff, if_true, eq_self])
    | ((with_reducible refine idxM ?_); replace H := Hcall H; obtain ⟨y_, hy, H⟩ := H; (first | (refine idx_msb hy (by rfl) (by first | (simp only [go_sem]; done) | (simp only [go_sem]; decide)) (by first | rfl | (simp only [go_sem]; rfl)) ?_) | (refine idx_msov hy (by rfl) (by first | (simp only [go_sem]; done) | (simp only [go_sem]; decide)) (by first | rfl | (simp only [go_sem]; rfl)) ?_)); simp only [go_sem, Nat.reduceAdd, Nat.reduceSub, Nat.reduceMul, Nat.reduceLT, Nat.reduceLeDiff, Nat.reduceEqDiff, if_true, eq_self])
    | ((with_reducible refine idxB ?_); replace H := Hcall H; obtain ⟨y_, hy, H⟩ := H; (with_reducible apply idx_str hy); (focus (simp only [go_sem])); simp only [go_sem, Nat.reduceAdd, Nat.reduceSub, Nat.reduceMul, Nat.reduceLT, Nat.reduceLeDiff, Nat.reduceEqDiff, if_true, eq_self])
    | ((with_reducible refine callS ?_); replace H := Hcall H; obtain ⟨y_, hy, H⟩ := H; (first | ((with_reducible apply call_deep); (focus (exact CT.ok hy)); (focus (simp [isCA, isC, isC1])); (focus (exact Nat.le_of_ble_eq_true rfl)); (focus (exact xf)); (focus (first | exact gV_ag rfl | exact gV_tu rfl | exact gV_agM rfl | exact gV_tuM rfl | exact (fun h => (by cases h)) | (simp [CT.res, goodV, goodA, goodC, isR]))); (simp only [CT.res, CT.mem, go_sem, Nat.reduceAdd, Nat.reduceSub, Nat.reduceMul, Nat.reduceLT, Nat.reduceLeDiff, Nat.reduceEqDiff, if_true, eq_self])) | ((with_reducible apply call_deep); (focus (exact xs)); (focus (simp [isCA, isC, isC1])); (focus (exact Nat.le_of_ble_eq_true rfl)); (focus (exact xf)); (focus (first | exact gV_ag rfl | exact gV_tu rfl | exact gV_agM rfl | exact gV_tuM rfl | exact (fun h => (by cases h)) | (simp [CT.res, goodV, goodA, goodC, isR]))); (simp only [CT.res, CT.mem, go_sem, Nat.reduceAdd, Nat.reduceSub, Nat.reduceMul, Nat.reduceLT, Nat.reduceLeDiff, Nat.reduceEqDiff, if_true, eq_self])) | ((with_reducible apply call_flat); (focus (first | (simp only [snapA, snapV, snapC, snapL, live_look, look_z, look_s, rowQ_map, drop_mp, take_mp, List.forall_mem_nil, true_and, and_true, if_true]; (first | exact CT.ok hy | (simp only [all_nil, all_cons, isC, isC1, true_and, and_true, if_true]; exact CT.ok hy))) | (simp only [snapA, snapV, snapC, snapL, live_look, look_z, look_s, rowQ_map, drop_mp, take_mp, List.forall_mem_nil, true_and, and_true, if_true]; (first | (exact xs) | (simp only [all_nil, all_cons, isC, isC1, true_and, and_true, if_true]; (exact xs)))) | (simp only [snapA, snapV, snapC, snapL, live_look, look_z, look_s, rowQ_map, drop_mp, take_mp, List.forall_mem_nil, true_and, and_true, if_true]; (exact xs)))); (focus (exact Nat.le_of_ble_eq_true rfl)); (focus (exact xf)); (focus (first | exact gV_agF rfl | exact (fun _ => rfl) | (simp [CT.res, goodV, goodA, goodC, isF]))); (simp only [CT.res, CT.mem, go_sem, Nat.reduceAdd, Nat.reduceSub, Nat.reduceMul, Nat.reduceLT, Nat.reduceLeDiff, Nat.reduceEqDiff, if_true, eq_self]))))
    | ((with_reducible refine slcS ?_); replace H := Hchk H; obtain ⟨hc, H⟩ := H; (first | ((with_reducible apply slice_sl hc); (focus rfl); (focus rfl); (focus (first | (simp only [go_sem]; done) | (simp only [go_sem]; decide))); (focus (first | rfl | (intro x_; rfl))); simp only [go_sem, Nat.reduceAdd, Nat.reduceSub, Nat.reduceMul, Nat.reduceLT, Nat.reduceLeDiff, Nat.reduceEqDiff, if_true, eq_self]) | ((refine slice_msb hc (by rfl) (by rfl) (by rfl) (by first | (simp only [go_sem]; done) | (simp only [go_sem]; decide)) (by first | rfl | (simp only [go_sem]; rfl)) ?_); simp only [go_sem, Nat.reduceAdd, Nat.reduceSub, Nat.reduceMul, Nat.reduceLT, Nat.reduceLeDiff, Nat.reduceEqDiff, if_true, eq_self]) | ((with_reducible apply slice_str hc); (focus rfl); (focus rfl); (focus (simp only [go_sem])); simp only [go_sem, Nat.reduceAdd, Nat.reduceSub, Nat.reduceMul, Nat.reduceLT, Nat.reduceLeDiff, Nat.reduceEqDiff, if_true, eq_self])))
    | ((with_reducible refine appS ?_); replace H := Hchk H; obtain ⟨hc, H⟩ := H; (first | (refine app_msb hc (by first | (simp only [go_sem]; done) | (simp only [go_sem]; rfl)) (by first | (simp only [go_sem]; done) | (simp only [go_sem]; rfl)) (by first | (simp only [go_sem]; done) | (simp only [go_sem]; rfl)) (by first | (simp only [go_sem]; done) | (simp only [go_sem]; rfl)) (by rfl) (by first | rfl | exact src_ss' (by rfl) (by rfl) (by rfl)) rfl rfl (by intro x_; rfl) rfl ?_) | (refine app_nlb hc (by first | (simp only [go_sem]; done) | (simp only [go_sem]; rfl)) (by first | (simp only [go_sem]; done) | (simp only [go_sem]; rfl)) (by first | (simp only [go_sem]; done) | (simp only [go_sem]; rfl)) (by first | (simp only [go_sem]; done) | (simp only [go_sem]; rfl)) (by first | rfl | exact src_ss' (by rfl) (by rfl) (by rfl)) rfl rfl (by intro x_; rfl) ?_)); simp only [go_sem, Nat.reduceAdd, Nat.reduceSub, Nat.reduceMul, Nat.reduceLT, Nat.reduceLeDiff, Nat.reduceEqDiff, if_true, eq_self])
    | ((with_reducible refine mkS ?_); replace H := Hchk H; obtain ⟨hc, H⟩ := H; (refine make_b hc (by first | (simp only [go_sem]; done) | (simp only [go_sem]; rfl)) (by first | (simp only [go_sem]; done) | (simp only [go_sem]; rfl)) (by first | (simp only [go_sem]; done) | (simp only [go_sem]; rfl)) (by first | (simp only [go_sem]; done) | (simp only [go_sem]; rfl)) rfl rfl ?_); simp only [go_sem, Nat.reduceAdd, Nat.reduceSub, Nat.reduceMul, Nat.reduceLT, Nat.reduceLeDiff, Nat.reduceEqDiff, if_true, eq_self])
    | ((with_reducible refine optS ?_); (first | (with_reducible refine opt_if (by decide) ?_) | (replace H := Hchk H; obtain ⟨hc, H⟩ := H; (first | (refine opt_if hc ?_) | (refine opt_if (of_decide_eq_true hc) ?_) | (refine opt_if ⟨rfl, of_decide_eq_true hc⟩ ?_)))); simp only [go_sem, Nat.reduceAdd, Nat.reduceSub, Nat.reduceMul, Nat.reduceLT, Nat.reduceLeDiff, Nat.reduceEqDiff, if_true, eq_self])
    | ((with_reducible refine loopS ?_); (refine pwp_loopH (Hlp H) ?_ ?_); (focus (simp only [LoopE.T, LoopE.M, U_s, U_z]; exact xc)); (clear H; intro n_ s_ H K_ hL; replace H := Hrd H; simp only [LoopE.T, LoopE.M, U_s, U_z]))
    | ((with_reducible refine pwp_draw (by kernel_rfl) ?_); simp only [go_sem, Nat.reduceAdd, Nat.reduceSub, Nat.reduceMul, Nat.reduceLT, Nat.reduceLeDiff, Nat.reduceEqDiff, if_true, eq_self])
    | ((with_reducible refine endD_intro (by kernel_rfl) ?_); (try simp only [thenP_normal, blockP_normal]))
    | ((with_reducible refine hK _ _ ?_); clear hK)
    | (clear hK; (with_reducible refine hK _ _ ?_); clear hK)
    | (clear hK; clear hK; (with_reducible refine hK _ _ ?_); clear hK)
    | (clear hK; clear hK; clear hK; (with_reducible refine hK _ _ ?_); clear hK)
    | (clear hK; clear hK; clear hK; clear hK; (with_reducible refine hK _ _ ?_); clear hK)
    | (clear hK; clear hK; clear hK; clear hK; clear hK; (with_reducible refine hK _ _ ?_); clear hK)
    | ((with_reducible refine And.intro ?_ ?_); omega)
    | (simp only [nxt_app, nxd_app, nxe_app, atM_app]; simp only [go_sem, Nat.reduceAdd, Nat.reduceSub, Nat.reduceMul, Nat.reduceLT, Nat.reduceLeDiff, Nat.reduceEqDiff, if_true, eq_self])
    | ((first | simp only [lit3 hy, Option.map_some, List.drop_zero, go_sem] | simp only [lit3s hy, Option.map_some, List.drop_zero, go_sem] | simp only [idxmapN hy, idxmap hy, idxset hy, go_sem, Nat.reduceAdd, Nat.reduceSub, Nat.reduceMul, Nat.reduceLT, Nat.reduceLeDiff, Nat.reduceEqDiff, if_true, eq_self] | simp only [idxmap hy, idxset hy, go_sem, Nat.reduceAdd, Nat.reduceSub, Nat.reduceMul, Nat.reduceLT, Nat.reduceLeDiff, Nat.reduceEqDiff, if_true, eq_self]))
    | ((with_reducible replace H := HexL H); (with_reducible refine hL _ _ _ H ?_); (try simp only [LoopE.T, LoopE.M, U_s, U_z]); exact xc)
    | ((with_reducible replace H := HexL H); clear hL; (with_reducible refine hL _ _ _ H ?_); (try simp only [LoopE.T, LoopE.M, U_s, U_z]); exact xc)
    | ((with_reducible refine jnX H hL ?_); exact xc)
    | (with_reducible exact (Hnone H).elim)
    | ((with_reducible replace H := rgH H); obtain ⟨y_, hy, H⟩ := H; (first | simp only [lit3 hy, Option.map_some, List.drop_zero, go_sem] | simp only [lit3s hy, Option.map_some, List.drop_zero, go_sem] | simp only [idxmapN hy, idxmap hy, idxset hy, go_sem, Nat.reduceAdd, Nat.reduceSub, Nat.reduceMul, Nat.reduceLT, Nat.reduceLeDiff, Nat.reduceEqDiff, if_true, eq_self] | simp only [idxmap hy, idxset hy, go_sem, Nat.reduceAdd, Nat.reduceSub, Nat.reduceMul, Nat.reduceLT, Nat.reduceLeDiff, Nat.reduceEqDiff, if_true, eq_self])))) : p := h
def dg (u : Nat) : List UInt8 := if h : u = 0 then [] else dg (u / 10) ++ [UInt8.ofNat (48 + u % 10)]
termination_by u
decreasing_by omega
theorem dg_zero : dg 0 = [] := by rw [dg, dif_pos rfl]
theorem dg_pos {u : Nat} (h : 0 < u) : dg u = dg (u / 10) ++ [UInt8.ofNat (48 + u % 10)] := by rw [dg, dif_neg (by omega)]
theorem dg_dec : ∀ (k u : Nat), u ≤ k → 0 < u → dg u = Lib.decDigits u
  | 0, u, h, h0 => by omega
  | k + 1, u, h, h0 => by
    rw [dg_pos h0, Lib.decDigits]
    by_cases h10 : u < 10
    · rw [dif_pos h10, show u / 10 = 0 by omega, dg_zero, show u % 10 = u by omega]; rfl
    · rw [dif_neg h10, dg_dec k (u / 10) (by omega) (by omega)]
def txt (l : List UInt8) : ByteArray := ⟨l.toArray⟩
theorem txt_cons (c : Nat) (l : List UInt8) : strOfNums [(c : Int)] ++ txt l = txt (UInt8.ofNat c :: l) := by
  apply ByteArray.ext
  rw [ByteArray.data_append]
  simp [strOfNums, txt]
theorem txt_size (l : List UInt8) : (txt l).size = l.length := by simp [txt, ByteArray.size]
theorem dg_len (u : Nat) (h : u ≤ 9223372036854775808) : (dg u).length ≤ 21 := by
  rcases Nat.eq_zero_or_pos u with rfl | h0
  · rw [dg_zero]; simp
  · rw [dg_dec u u (Nat.le_refl _) h0]
    have := Lib.itoa_length_le (-(u : Int)) (by omega) (by omega)
    unfold Lib.itoa at this
    rw [if_pos (by omega), show (-(u : Int)).natAbs = u by omega] at this
    simp at this
    omega
theorem formatInt_spec (n : Int) (h0 : -9223372036854775808 ≤ n) (h1 : n ≤ 9223372036854775807) (w : World) :
    Calls Tryd.prog 21 #[.int .i64 n] w fun e w' => e = .returned (.string (txt (Lib.itoa n))) ∧ Up w w' := by
  by_cases hn0 : n = 0
  · subst hn0
    go_enter Tryd.func21, Tryd.ntmps21
    go_wp2
    go_ret
    refine ⟨?_, by (repeat (first | exact Up.rfl' _ | (refine Up.al _ ?_) | (refine Up.dr _ ?_) | (refine Up.dr1 ?_) | (refine Up.sc ?_ (by first | exact Nat.le_refl _ | (simp; done) | omega) _) | (refine Up.step (by assumption) ?_)))⟩
    congr 1
    unfold Lib.itoa
    rw [if_neg (by omega), Lib.decDigits, dif_pos (by decide)]
    rfl
  · have hfin : ∀ l : List UInt8, dg n.natAbs = l → (if n < 0 then 45 :: l else l) = Lib.itoa n := by
      rintro l rfl
      rw [dg_dec _ _ (Nat.le_refl _) (by omega)]
      unfold Lib.itoa
      split
      · rfl
      · rw [show n.natAbs = n.toNat by omega]
    have hlen := dg_len n.natAbs (by omega)
    go_enter Tryd.func21, Tryd.ntmps21
    go_wp2
    go_loopw [3, 4] (fun ss xx wr => ∃ (m : Int) (l : List UInt8), xx = .int .i64 m ∧ ss = .string (txt l) ∧ dg m.natAbs ++ l = dg n.natAbs ∧ -9223372036854775808 ≤ m ∧ m ≤ 9223372036854775807 ∧ Up w wr) (fun _ xx _ => (intOf xx).natAbs)
    case atStart => exact ⟨n, [], rfl, rfl, by simp, h0, h1, by (repeat (first | exact Up.rfl' _ | (refine Up.al _ ?_) | (refine Up.dr _ ?_) | (refine Up.dr1 ?_) | (refine Up.sc ?_ (by first | exact Nat.le_refl _ | (simp; done) | omega) _) | (refine Up.step (by assumption) ?_)))⟩
    case round =>
      obtain ⟨m, l, rfl, rfl, hd, hm0, hm1, hb⟩ := hrel
      have hl : l.length ≤ 21 := by
        have := congrArg List.length hd
        rw [List.length_append] at this
        omega
      by_cases hz : m = 0
      · subst hz
        have hd' : l = dg n.natAbs := by simpa [dg_zero] using hd
        have hs : (txt l).size ≤ 30 := by rw [txt_size]; omega
        have hf := hfin l hd'.symm
        clear hfin
        have h45 : (⟨#[45]⟩ : ByteArray).size = 1 := rfl
        have HF := Lib.hid hf
        clear hf hd hd'
        go_wp2
        all_goals (try (exfalso; omega))
        all_goals (go_ret; refine ⟨?_, by (repeat (first | exact Up.rfl' _ | (refine Up.al _ ?_) | (refine Up.dr _ ?_) | (refine Up.dr1 ?_) | (refine Up.sc ?_ (by first | exact Nat.le_refl _ | (simp; done) | omega) _) | (refine Up.step (by assumption) ?_)))⟩; have hf := HF.out; first | (rw [if_pos (by omega)] at hf; rw [← hf]; rfl) | (rw [if_neg (by omega)] at hf; exact congrArg (fun l => Ending.returned (.string (txt l))) hf))
      · have hs : (txt l).size ≤ 30 := by rw [txt_size]; omega
        have hu8 : ∀ c : Nat, c < 10 → UInt8.ofNat (48 + c) = UInt8.ofNat (48 + c) := fun _ _ => rfl
        by_cases hneg : m < 0
        · obtain ⟨u, rfl⟩ : ∃ u : Nat, m = -(u : Int) := ⟨m.natAbs, by omega⟩
          have hu : 0 < u := by omega
          rw [show (-(u : Int)).natAbs = u by omega, dg_pos hu] at hd
          have hcv := fun z : Int => run_convert_bytes_arg (P := Tryd.prog) (wr.alloc (.cells #[.int .u8 z] 5)) 29 5 Tryd.underlying29 Tryd.underlying5 wr.heap.size 0 1 1 [z] rfl (fun i hi => (by obtain rfl : i = 0 := (by omega); simp [go_sem])) 9 Tryd.underlying9
          have hcv1 := hcv (48 + (u : Int) % 10)
          have hcv2 := hcv (48 + -((u : Int) % 10))
          clear hcv
          have hsz : (strOfNums [48 + (u : Int) % 10]).size = 1 := by simp [strOfNums, ByteArray.size]
          have hsz2 : (strOfNums [48 + -((u : Int) % 10)]).size = 1 := by simp [strOfNums, ByteArray.size]
          go_wp2
          all_goals (try (exfalso; omega))
          · refine ⟨⟨-((u / 10 : Nat) : Int), UInt8.ofNat (48 + u % 10) :: l, by congr 1, ?_, ?_, by omega, by omega, by (repeat (first | exact Up.rfl' _ | (refine Up.al _ ?_) | (refine Up.dr _ ?_) | (refine Up.dr1 ?_) | (refine Up.sc ?_ (by first | exact Nat.le_refl _ | (simp; done) | omega) _) | (refine Up.step (by assumption) ?_)))⟩, by simp [intOf]; omega⟩
            · rw [show (48 + (u : Int) % 10) = ((48 + u % 10 : Nat) : Int) by omega, txt_cons]
            · rw [show (-((u / 10 : Nat) : Int)).natAbs = u / 10 by omega, ← hd]; simp
          · refine ⟨⟨-((u / 10 : Nat) : Int), UInt8.ofNat (48 + u % 10) :: l, by congr 1, ?_, ?_, by omega, by omega, by (repeat (first | exact Up.rfl' _ | (refine Up.al _ ?_) | (refine Up.dr _ ?_) | (refine Up.dr1 ?_) | (refine Up.sc ?_ (by first | exact Nat.le_refl _ | (simp; done) | omega) _) | (refine Up.step (by assumption) ?_)))⟩, by simp [intOf]; omega⟩
            · rw [show (48 + -((u : Int) % 10)) = ((48 + u % 10 : Nat) : Int) by omega, txt_cons]
            · rw [show (-((u / 10 : Nat) : Int)).natAbs = u / 10 by omega, ← hd]; simp
        · obtain ⟨u, rfl⟩ : ∃ u : Nat, m = (u : Int) := ⟨m.toNat, by omega⟩
          have hu : 0 < u := by omega
          rw [show ((u : Int)).natAbs = u by omega, dg_pos hu] at hd
          have hcv := run_convert_bytes_arg (P := Tryd.prog) (wr.alloc (.cells #[.int .u8 (48 + (u : Int) % 10)] 5)) 29 5 Tryd.underlying29 Tryd.underlying5 wr.heap.size 0 1 1 [48 + (u : Int) % 10] rfl (fun i hi => (by obtain rfl : i = 0 := (by omega); simp [go_sem])) 9 Tryd.underlying9
          have hsz : (strOfNums [48 + (u : Int) % 10]).size = 1 := by simp [strOfNums, ByteArray.size]
          go_wp2
          refine ⟨⟨((u / 10 : Nat) : Int), UInt8.ofNat (48 + u % 10) :: l, by congr 1, ?_, ?_, by omega, by omega, by (repeat (first | exact Up.rfl' _ | (refine Up.al _ ?_) | (refine Up.dr _ ?_) | (refine Up.dr1 ?_) | (refine Up.sc ?_ (by first | exact Nat.le_refl _ | (simp; done) | omega) _) | (refine Up.step (by assumption) ?_)))⟩, by simp [intOf]; omega⟩
          · rw [show (48 + (u : Int) % 10) = ((48 + u % 10 : Nat) : Int) by omega, txt_cons]
          · rw [show (((u / 10 : Nat) : Int)).natAbs = u / 10 by omega, ← hd]; simp
end Go.Proofs.YtgdcengoopjplaaDoor
namespace Go.Proofs
open Go.Shelf
def Tryd.laysM171_ren : Go.Shelf.Ren := ⟨fun | 171 => 40 | 243 => 48 | 246 => 58 | 283 => 80 | 284 => 81 | 285 => 82 | 286 => 83 | 129 => 73 | 317 => 95 | 318 => 96 | 319 => 97 | 320 => 98 | 337 => 102 | 338 => 103 | n => n, fun | 3 => 3 | 9 => 9 | 2 => 2 | 4 => 4 | 171 => 102 | 0 => 0 | 53 => 88 | 37 => 29 | 5 => 5 | 173 => 104 | 212 => 120 | 51 => 86 | 20 => 20 | 213 => 121 | 46 => 68 | 232 => 128 | 233 => 129 | n => n, fun | 17 => 0 | 18 => 2 | 19 => 3 | n => n⟩
theorem Tryd.laysM171 : Go.Proofs.LaysM.n171 Tryd.prog Tryd.laysM171_ren := {
  mixed := by kernel_rfl
  f129 := Tryd.func73.trans (congrArg some (by kernel_rfl))
  f171 := Tryd.func40.trans (congrArg some (by kernel_rfl))
  f243 := Tryd.func48.trans (congrArg some (by kernel_rfl))
  f246 := Tryd.func58.trans (congrArg some (by kernel_rfl))
  f283 := Tryd.func80.trans (congrArg some (by kernel_rfl))
  f284 := Tryd.func81.trans (congrArg some (by kernel_rfl))
  f285 := Tryd.func82.trans (congrArg some (by kernel_rfl))
  f286 := Tryd.func83.trans (congrArg some (by kernel_rfl))
  f317 := Tryd.func95.trans (congrArg some (by kernel_rfl))
  f318 := Tryd.func96.trans (congrArg some (by kernel_rfl))
  f319 := Tryd.func97.trans (congrArg some (by kernel_rfl))
  f320 := Tryd.func98.trans (congrArg some (by kernel_rfl))
  f337 := Tryd.func102.trans (congrArg some (by kernel_rfl))
  f338 := Tryd.func103.trans (congrArg some (by kernel_rfl))
  t0 := Tryd.underlying0
  a0 := Tryd.isAgg0
  z0 := Tryd.sizeOf0
  v0 := Tryd.zeroValue0
  t2 := Tryd.underlying2
  a2 := Tryd.isAgg2
  z2 := Tryd.sizeOf2
  v2 := Tryd.zeroValue2
  t3 := Tryd.underlying3
  a3 := Tryd.isAgg3
  z3 := Tryd.sizeOf3
  v3 := Tryd.zeroValue3
  t4 := Tryd.underlying4
  a4 := Tryd.isAgg4
  z4 := Tryd.sizeOf4
  v4 := Tryd.zeroValue4
  t5 := Tryd.underlying5
  a5 := Tryd.isAgg5
  z5 := Tryd.sizeOf5
  v5 := Tryd.zeroValue5
  t9 := Tryd.underlying9
  a9 := Tryd.isAgg9
  z9 := Tryd.sizeOf9
  v9 := Tryd.zeroValue9
  t20 := Tryd.underlying20
  a20 := Tryd.isAgg20
  z20 := Tryd.sizeOf20
  v20 := Tryd.zeroValue20
  t37 := Tryd.underlying29
  a37 := Tryd.isAgg29
  z37 := Tryd.sizeOf29
  v37 := Tryd.zeroValue29
  t46 := Tryd.underlying68
  a46 := Tryd.isAgg68
  z46 := Tryd.sizeOf68
  v46 := Tryd.zeroValue68
  t51 := Tryd.underlying86
  a51 := Tryd.isAgg86
  z51 := Tryd.sizeOf86
  v51 := Tryd.zeroValue86
  t53 := Tryd.underlying88
  a53 := Tryd.isAgg88
  z53 := Tryd.sizeOf88
  v53 := Tryd.zeroValue88
  t171 := Tryd.underlying102
  a171 := Tryd.isAgg102
  z171 := Tryd.sizeOf102
  v171 := Tryd.zeroValue102
  t173 := Tryd.underlying104
  a173 := Tryd.isAgg104
  z173 := Tryd.sizeOf104
  v173 := Tryd.zeroValue104
  t212 := Tryd.underlying120
  a212 := Tryd.isAgg120
  z212 := Tryd.sizeOf120
  v212 := Tryd.zeroValue120
  t213 := Tryd.underlying121
  a213 := Tryd.isAgg121
  z213 := Tryd.sizeOf121
  t232 := Tryd.underlying128
  a232 := Tryd.isAgg128
  z232 := Tryd.sizeOf128
  v232 := Tryd.zeroValue128
  t233 := Tryd.underlying129
  a233 := Tryd.isAgg129
  z233 := Tryd.sizeOf129
  v233 := Tryd.zeroValue129
  g17 := by kernel_rfl
  g18 := by kernel_rfl
  g19 := by kernel_rfl
  i0 := by kernel_rfl
  i2 := by kernel_rfl
  i3 := by kernel_rfl
  i4 := by kernel_rfl
  i5 := by kernel_rfl
  i9 := by kernel_rfl
  i20 := by kernel_rfl
  i37 := by kernel_rfl
  i46 := by kernel_rfl
  i51 := by kernel_rfl
  i53 := by kernel_rfl
  i171 := by kernel_rfl
  i173 := by kernel_rfl
  i212 := by kernel_rfl
  i232 := by kernel_rfl
  i233 := by kernel_rfl
  m17 := by kernel_rfl
  m18 := by kernel_rfl
  m19 := by kernel_rfl }
open Go.RowKit Go.Sort Go.Lib in
theorem Tryd.strconv_Itoa (n : Int) (h0 : -9223372036854775808 ≤ n) (h1 : n ≤ 9223372036854775807) (w : World) (htab : Lib.TabIs Tryd.prog w "internal/strconv.uint64pow10" .u64 Lib.pow10Tab) :
    Calls Tryd.prog 40 #[.int .i64 n] w fun e w' => e = .returned (.string ⟨(Lib.itoa n).toArray⟩) ∧ ∃ k os, w' = grow (w.drewN k) os := Any.strconv_Itoa Tryd.laysM171 n h0 h1 w htab
def Tryd.lays105_ren : Go.Shelf.Ren := ⟨fun | 105 => 57 | 212 => 74 | 99 => 75 | 165 => 76 | 166 => 77 | 170 => 78 | 169 => 79 | 263 => 90 | 264 => 91 | 206 => 92 | 240 => 93 | 241 => 94 | 276 => 100 | 277 => 101 | n => n, fun | 9 => 9 | 3 => 3 | 4 => 4 | 20 => 20 | 0 => 0 | 46 => 68 | 109 => 89 | 5 => 5 | 72 => 94 | 76 => 98 | 51 => 86 | 146 => 113 | 53 => 88 | 148 => 115 | 70 => 92 | 37 => 29 | 75 => 97 | 127 => 117 | 164 => 125 | 80 => 101 | n => n, fun | n => n⟩
theorem Tryd.lays105 : Go.Proofs.Lays.n105 Tryd.prog Tryd.lays105_ren := {
  mixed := by kernel_rfl
  f99 := Tryd.func75.trans (congrArg some (by kernel_rfl))
  f105 := Tryd.func57.trans (congrArg some (by kernel_rfl))
  f165 := Tryd.func76.trans (congrArg some (by kernel_rfl))
  f166 := Tryd.func77.trans (congrArg some (by kernel_rfl))
  f169 := Tryd.func79.trans (congrArg some (by kernel_rfl))
  f170 := Tryd.func78.trans (congrArg some (by kernel_rfl))
  f206 := Tryd.func92.trans (congrArg some (by kernel_rfl))
  f212 := Tryd.func74.trans (congrArg some (by kernel_rfl))
  f240 := Tryd.func93.trans (congrArg some (by kernel_rfl))
  f241 := Tryd.func94.trans (congrArg some (by kernel_rfl))
  f263 := Tryd.func90.trans (congrArg some (by kernel_rfl))
  f264 := Tryd.func91.trans (congrArg some (by kernel_rfl))
  f276 := Tryd.func100.trans (congrArg some (by kernel_rfl))
  f277 := Tryd.func101.trans (congrArg some (by kernel_rfl))
  t0 := Tryd.underlying0
  a0 := Tryd.isAgg0
  z0 := Tryd.sizeOf0
  v0 := Tryd.zeroValue0
  t3 := Tryd.underlying3
  a3 := Tryd.isAgg3
  z3 := Tryd.sizeOf3
  v3 := Tryd.zeroValue3
  t4 := Tryd.underlying4
  a4 := Tryd.isAgg4
  z4 := Tryd.sizeOf4
  v4 := Tryd.zeroValue4
  t5 := Tryd.underlying5
  a5 := Tryd.isAgg5
  z5 := Tryd.sizeOf5
  v5 := Tryd.zeroValue5
  t9 := Tryd.underlying9
  a9 := Tryd.isAgg9
  z9 := Tryd.sizeOf9
  v9 := Tryd.zeroValue9
  t20 := Tryd.underlying20
  a20 := Tryd.isAgg20
  z20 := Tryd.sizeOf20
  v20 := Tryd.zeroValue20
  t37 := Tryd.underlying29
  a37 := Tryd.isAgg29
  z37 := Tryd.sizeOf29
  v37 := Tryd.zeroValue29
  t46 := Tryd.underlying68
  a46 := Tryd.isAgg68
  z46 := Tryd.sizeOf68
  v46 := Tryd.zeroValue68
  t51 := Tryd.underlying86
  a51 := Tryd.isAgg86
  z51 := Tryd.sizeOf86
  v51 := Tryd.zeroValue86
  t53 := Tryd.underlying88
  a53 := Tryd.isAgg88
  z53 := Tryd.sizeOf88
  v53 := Tryd.zeroValue88
  t70 := Tryd.underlying92
  a70 := Tryd.isAgg92
  z70 := Tryd.sizeOf92
  v70 := Tryd.zeroValue92
  t72 := Tryd.underlying94
  a72 := Tryd.isAgg94
  z72 := Tryd.sizeOf94
  v72 := Tryd.zeroValue94
  t75 := Tryd.underlying97
  a75 := Tryd.isAgg97
  z75 := Tryd.sizeOf97
  v75 := Tryd.zeroValue97
  t76 := Tryd.underlying98
  a76 := Tryd.isAgg98
  z76 := Tryd.sizeOf98
  v76 := Tryd.zeroValue98
  t109 := Tryd.underlying89
  a109 := Tryd.isAgg89
  z109 := Tryd.sizeOf89
  v109 := Tryd.zeroValue89
  t127 := Tryd.underlying117
  a127 := Tryd.isAgg117
  z127 := Tryd.sizeOf117
  v127 := Tryd.zeroValue117
  t146 := Tryd.underlying113
  a146 := Tryd.isAgg113
  z146 := Tryd.sizeOf113
  v146 := Tryd.zeroValue113
  t148 := Tryd.underlying115
  a148 := Tryd.isAgg115
  z148 := Tryd.sizeOf115
  v148 := Tryd.zeroValue115
  t164 := Tryd.underlying125
  a164 := Tryd.isAgg125
  z164 := Tryd.sizeOf125
  v164 := Tryd.zeroValue125 }
theorem Tryd.Builder_Extra_105 : Builder.Extra Tryd.prog Tryd.lays105_ren := {
  sizeBuilder := by kernel_rfl
  liesBuilder := by kernel_rfl
  t5 := Tryd.underlying5
  a5 := Tryd.isAgg5
  z5 := Tryd.sizeOf5
  v5 := Tryd.zeroValue5
  infoByte := by kernel_rfl
  cellsByte := by kernel_rfl
  sizeByte := by kernel_rfl
  neB5 := by decide }
open Go.RowKit Go.Lib in
theorem Tryd.strings_Repeat (s : ByteArray) (c : Nat) (w : World) (hc : c ≤ 9223372036854775807) (hlen : s.size * c ≤ 140737488355328) :
    Calls Tryd.prog 57 #[.string s, .int .i64 c] w fun e w' => e = .returned (.string ⟨(Lib.repeatL s.data.toList c).toArray⟩) ∧ Below w.heap.size w w' := Any.strings_Repeat Tryd.lays105 Tryd.Builder_Extra_105 s c w hc hlen
end Go.Proofs
namespace Go.Proofs.YtgdcengoopjplaaDoor
set_option maxRecDepth 10000
open Go.RowKit
set_option linter.unusedVariables false
set_option linter.unusedSimpArgs false
set_option maxHeartbeats 2000000
theorem up_grow (w : World) (k : Nat) (os : Array Obj) : Up w (Sort.grow (w.drewN k) os) :=
  ⟨rfl, rfl, rfl, by simp, fun b hb => Sort.heap_grow_old _ _ hb⟩
theorem formatInt_impl (n : Int) (h0 : -9223372036854775808 ≤ n) (h1 : n ≤ 9223372036854775807) (w : World) (ht : TabF w) :
    Calls Tryd.prog 26 #[.int .i64 n] w fun e w' => e = .returned (.string (txt (Lib.itoa n))) ∧ Up w w' := by
  have hI := Tryd.strconv_Itoa n h0 h1 w ht
  go_enter Tryd.func26, Tryd.ntmps26
  go_wp2_with (go_at_call 40; refine hI.mono ?_; rintro e w' ⟨rfl, k, os, rfl⟩)
  go_ret
  exact ⟨rfl, up_grow _ _ _⟩
def padL (n : Int) (d : Nat) : List UInt8 := List.replicate (d - (Lib.itoa n).length) 48 ++ Lib.itoa n
theorem repeat48 (c : Nat) : Lib.repeatL [48] c = List.replicate c (48 : UInt8) := by
  induction c with
  | zero => rfl
  | succ c ih =>
    rw [Lib.repeatL, ih, List.replicate_succ]; rfl
theorem padded_impl (n : Int) (d : Nat) (h0 : -9223372036854775808 ≤ n) (h1 : n ≤ 9223372036854775807) (hd : d ≤ 20) (w : World) (ht : TabF w) :
    Calls Tryd.prog 47 #[.int .i64 n, .int .i64 d] w fun e w' => e = .returned (.string (txt (padL n d))) ∧ Up w w' := by
  have hF := formatInt_impl n h0 h1 w ht
  have hlen := Lib.itoa_length_le n h0 h1
  have hsz : (txt (Lib.itoa n)).size = (Lib.itoa n).length := txt_size _
  have hR := fun w1 => Tryd.strings_Repeat ⟨#[48]⟩ (d - (Lib.itoa n).length) w1 (by omega) (by show 1 * _ ≤ _; omega)
  have hsR : (⟨(Lib.repeatL [48] (d - (Lib.itoa n).length)).toArray⟩ : ByteArray).size = d - (Lib.itoa n).length := by simp [ByteArray.size, Lib.repeatL_length]
  rw [show ((d - (Lib.itoa n).length : Nat) : Int) = max 0 ((d : Int) - ((Lib.itoa n).length : Int)) by omega] at hR
  go_enter Tryd.func47, Tryd.ntmps47
  go_wp2_with (first
    | (go_at_call 26; refine hF.mono ?_; rintro e w1 ⟨rfl, hu1⟩)
    | (go_at_call 57; refine (hR _).mono ?_; rintro e w2 ⟨rfl, hu2⟩))
  all_goals (try (exfalso; omega))
  go_ret
  refine ⟨?_, Up.step hu2 hu1⟩
  show Ending.returned (.string (⟨(Lib.repeatL [48] (d - (Lib.itoa n).length)).toArray⟩ ++ txt (Lib.itoa n))) = _
  congr 2
  apply ByteArray.ext
  rw [ByteArray.data_append]
  simp [txt, padL, repeat48]
theorem callM_r {P : Program} {f : FuncId} {args : List PV} {r : PV} {val : Value} (h1 : ∀ (w : World) (E : Env), Rep w E r val)
    (h : ∀ (S : Nat → Prop) (β : Nat → Option Blk) (w : World) (vs : Array Value), (∀ b, S b → b < w.heap.size) → TabF w → vs.size = args.length → (∀ (i : Nat) (p : PV), args[i]? = some p → ∃ x, vs[i]? = some x ∧ Rep w (E1 S β 0) p x) →
      Calls P f vs w fun e w' => e = .returned val ∧ Up w w') : CallM P f args [] r [] := by
  intro S β w vs ω hk hl ha
  refine (h S β w vs hk.sz hk.tab.here hl fun i p hp => by obtain ⟨x, h1, h2⟩ := ha i p hp; exact ⟨x, h1, h2.toω⟩).mono ?_
  rintro e w' ⟨rfl, hu⟩
  refine ⟨val, E1 S β 0, rfl, ⟨⟨hu.os, hu.tape, hu.output, hu.size, fun b hb _ => hu.block b hb⟩, fun b hb => Nat.lt_of_lt_of_le (hk.sz b hb) hu.size, fun l B hB hz => ?_, hk.inj, hk.used, hk.bu, fun l mb hm => (by simp at hm), hk.dom, hk.tab, fun _ _ h => h.elim⟩, fun b h => h, fun b h => .inl h, ⟨fun l B _ h => h, fun _ _ h => h.elim⟩, h1 _ _⟩
  obtain ⟨a, b, c⟩ := hk.own l B hB hz
  exact ⟨a, Nat.lt_of_lt_of_le b hu.size, c⟩
theorem rv1 {w : World} {E : Env} {a x : Value} (h : Rep w E (.v a) x) : x = a := h.v_inv.1
theorem ar1 {vs : Array Value} {x0 : Value} (h : vs.size = 1) (h0 : vs[0]? = some x0) : vs = #[x0] := by
  apply Array.ext (by simp [h])
  intro i h2 h3
  obtain rfl : i = 0 := by omega
  simpa using (Array.getElem?_eq_some_iff.1 h0).2
theorem ar2 {vs : Array Value} {x0 x1 : Value} (h : vs.size = 2) (h0 : vs[0]? = some x0) (h1 : vs[1]? = some x1) : vs = #[x0, x1] := by
  apply Array.ext (by simp [h])
  intro i hi h3
  have a0 := (Array.getElem?_eq_some_iff.1 h0).2
  have a1 := (Array.getElem?_eq_some_iff.1 h1).2
  match i, hi with
  | 0, _ => simpa using a0
  | 1, _ => simpa using a1
  | i + 2, hi => omega
def in64 (n : Int) : Prop := -9223372036854775808 ≤ n ∧ n ≤ 9223372036854775807
instance (n : Int) : Decidable (in64 n) := by unfold in64; infer_instance
def m_impl_FormatInt (n : Int) : Option ByteArray := if in64 n then some (txt (Lib.itoa n)) else none
theorem ok_impl_FormatInt (n : Int) {r : ByteArray} (H : m_impl_FormatInt n = some r) : CallM Tryd.prog 26 [vi n] [] (Go.Proofs.YtgdcengoopjplaaDoor.vs r) [] := by
  unfold m_impl_FormatInt at H
  split at H
  case isFalse => cases H
  rename_i hn
  obtain rfl := Option.some.inj H
  refine callM_r (fun w E => .c (.v _ rfl)) fun S β w vs hsz ht hl ha => ?_
  obtain ⟨x, hx, hr⟩ := ha 0 _ rfl
  obtain rfl := ar1 hl hx
  obtain rfl := rv1 hr
  exact formatInt_impl n hn.1 hn.2 w ht
instance (n : Int) : CT Tryd.prog (m_impl_FormatInt n) := ⟨26, [vi n], [], fun r => vs r, fun r => [], ok_impl_FormatInt n⟩
def m_spec_FormatInt (n : Int) : Option ByteArray := if in64 n then some (txt (Lib.itoa n)) else none
theorem ok_spec_FormatInt (n : Int) {r : ByteArray} (H : m_spec_FormatInt n = some r) : CallM Tryd.prog 21 [vi n] [] (Go.Proofs.YtgdcengoopjplaaDoor.vs r) [] := by
  unfold m_spec_FormatInt at H
  split at H
  case isFalse => cases H
  rename_i hn
  obtain rfl := Option.some.inj H
  refine callM_r (fun w E => .c (.v _ rfl)) fun S β w vs hsz ht hl ha => ?_
  obtain ⟨x, hx, hr⟩ := ha 0 _ rfl
  obtain rfl := ar1 hl hx
  obtain rfl := rv1 hr
  exact formatInt_spec n hn.1 hn.2 w
instance (n : Int) : CT Tryd.prog (m_spec_FormatInt n) := ⟨21, [vi n], [], fun r => vs r, fun r => [], ok_spec_FormatInt n⟩
def m_impl_padded (n d : Int) : Option ByteArray := if in64 n ∧ 0 ≤ d ∧ d ≤ 20 then some (txt (padL n d.toNat)) else none
theorem ok_impl_padded (n d : Int) {r : ByteArray} (H : m_impl_padded n d = some r) : CallM Tryd.prog 47 [vi n, vi d] [] (Go.Proofs.YtgdcengoopjplaaDoor.vs r) [] := by
  unfold m_impl_padded at H
  split at H
  case isFalse => cases H
  rename_i hn
  obtain rfl := Option.some.inj H
  refine callM_r (fun w E => .c (.v _ rfl)) fun S β w vs hsz ht hl ha => ?_
  obtain ⟨x, hx, hr⟩ := ha 0 _ rfl
  obtain ⟨x1, hx1, hr1⟩ := ha 1 _ rfl
  obtain rfl := ar2 hl hx hx1
  obtain rfl := rv1 hr
  obtain rfl := rv1 hr1
  have := padded_impl n d.toNat hn.1.1 hn.1.2 (by omega) w ht
  rwa [show ((d.toNat : Nat) : Int) = d by omega] at this
instance (n d : Int) : CT Tryd.prog (m_impl_padded n d) := ⟨47, [vi n, vi d], [], fun r => vs r, fun r => [], ok_impl_padded n d⟩
class FlatAs {α β : Type} [Enc β] (c : α → List PV) (g : α → β) : Prop where
  len : ∀ x, (c x).length = Enc.k β
  at_ : ∀ x (j : Nat) (p : PV), (c x)[j]? = some p → ∃ u, (Enc.cells (g x))[j]? = some u ∧ p = .v u
theorem rd_flat {α β : Type} [Enc β] {c : α → List PV} (g : α → β) [hf : FlatAs c g] {w : World} {S : Nat → Prop} {xs : List α} {x : Value} (hsz : ∀ b, S b → b < w.heap.size) (h : RepC w S (.sl (xs.map c)) x) :
    ∃ A n, x = .slice A xs.length n ∧ xs.length ≤ n ∧ (xs ≠ [] → n ≤ maxLen) ∧ Rd w w.heap.size A (xs.map g) := by
  generalize hq : PV.sl (xs.map c) = q at h
  cases h with
  | v x h => cases hq
  | ud => cases hq
  | un => cases hq
  | rp => cases hq
  | fn => cases hq
  | nil A n =>
    have : xs = [] := by simpa using hq
    exact ⟨A, n, by rw [this]; rfl, by rw [this]; simp, fun h => absurd this h, by rw [this]; exact Rd.nil_⟩
  | sl es b off k n u hS hkp hnc hm hes hcc h1 hrr =>
    obtain rfl : xs.map c = es := by simpa using hq
    refine ⟨_, n, by simp, by simpa using hnc, fun _ => hm, fun hne => ⟨b, off, rfl, hsz b hS, fun t u' hu' => ?_⟩⟩
    have hne' : xs ≠ [] := fun e => hne (by rw [e]; rfl)
    have hpos : 0 < xs.length := List.length_pos_iff.2 hne'
    have hk1 : k = Enc.k β := ((hes 0 (c xs[0]) (by simp [hpos])).symm).trans (hf.len _)
    subst hk1
    have hkp' : 0 < Enc.k β := hkp
    have ht := (List.getElem?_eq_some_iff.1 hu').1
    rw [flat_len, List.length_map] at ht
    have hi : t / Enc.k β < xs.length := by rw [Nat.div_lt_iff_lt_mul hkp']; exact ht
    have hj := Nat.mod_lt t hkp'
    have e0 : t / Enc.k β * Enc.k β + t % Enc.k β = t := by rw [Nat.mul_comm]; exact Nat.div_add_mod t _
    have e1 : (xs.map c)[t / Enc.k β]? = some (c xs[t / Enc.k β]) := by simp [hi]
    have e2 : (c xs[t / Enc.k β])[t % Enc.k β]? = some ((c xs[t / Enc.k β])[t % Enc.k β]'(by rw [hf.len]; exact hj)) := List.getElem?_eq_getElem _
    obtain ⟨v, hv, hp⟩ := hf.at_ _ _ _ e2
    have hfl := flat_at (xs := xs.map g) (i := t / Enc.k β) (x := g xs[t / Enc.k β]) (by simp [hi]) hv
    rw [e0, hu'] at hfl
    obtain rfl := Option.some.inj hfl
    have hc := hcc _ _ _ _ e1 e2
    have hz := hrr _ _ _ _ e1 e2
    rw [hp] at hz
    have hz' : u (t / Enc.k β) (t % Enc.k β) = u' := by
      generalize u (t / Enc.k β) (t % Enc.k β) = z at hz
      cases hz with
      | v _ _ => rfl
    rw [hz'] at hc
    rw [← e0, ← Nat.add_assoc]
    exact hc
theorem callM_v {P : Program} {f : FuncId} {args : List PV} {val : Value} (h1 : val.oneCell' = true)
    (h : ∀ (S : Nat → Prop) (β : Nat → Option Blk) (w : World) (vs : Array Value), (∀ b, S b → b < w.heap.size) → vs.size = args.length → (∀ (i : Nat) (p : PV), args[i]? = some p → ∃ x, vs[i]? = some x ∧ Rep w (E1 S β 0) p x) →
      Calls P f vs w fun e w' => e = .returned val ∧ Up w w') : CallM P f args [] (.v val) [] := by
  intro S β w vs ω hk hl ha
  refine (h S β w vs hk.sz hl fun i p hp => by obtain ⟨x, h1, h2⟩ := ha i p hp; exact ⟨x, h1, h2.toω⟩).mono ?_
  rintro e w' ⟨rfl, hu⟩
  refine ⟨val, E1 S β 0, rfl, ⟨⟨hu.os, hu.tape, hu.output, hu.size, fun b hb _ => hu.block b hb⟩, fun b hb => Nat.lt_of_lt_of_le (hk.sz b hb) hu.size, fun l B hB hz => ?_, hk.inj, hk.used, hk.bu, fun l mb hm => (by simp at hm), hk.dom, hk.tab, fun _ _ h => h.elim⟩, fun b h => h, fun b h => .inl h, ⟨fun l B _ h => h, fun _ _ h => h.elim⟩, .c (.v _ h1)⟩
  obtain ⟨a, b, c⟩ := hk.own l B hB hz
  exact ⟨a, Nat.lt_of_lt_of_le b hu.size, c⟩
theorem arrV1 {vs : Array Value} {x0 : Value} (h : vs.size = 1) (h0 : vs[0]? = some x0) : vs = #[x0] := by
  apply Array.ext (by simp [h])
  intro i h2 h3
  obtain rfl : i = 0 := by omega
  simpa using (Array.getElem?_eq_some_iff.1 h0).2
theorem arrV3 {vs : Array Value} {x0 x1 x2 : Value} (h : vs.size = 3) (h0 : vs[0]? = some x0) (h1 : vs[1]? = some x1) (h2 : vs[2]? = some x2) : vs = #[x0, x1, x2] := by
  apply Array.ext (by simp [h])
  intro i hi h3
  have a0 := (Array.getElem?_eq_some_iff.1 h0).2
  have a1 := (Array.getElem?_eq_some_iff.1 h1).2
  have a2 := (Array.getElem?_eq_some_iff.1 h2).2
  match i, hi with
  | 0, _ => simpa using a0
  | 1, _ => simpa using a1
  | 2, _ => simpa using a2
  | i + 3, hi => omega
theorem rep_v1 {w : World} {E : Env} {a x : Value} (h : Rep w E (.v a) x) : x = a := h.v_inv.1
theorem rep_sl {w : World} {E : Env} {es : List (List PV)} {x : Value} (h : Rep w E (.sl es) x) : RepC w E.S (.sl es) x := h.sl_inv
instance : FlatAs cInt (id : Int → Int) := ⟨fun x => rfl, fun x j p h => by
  cases j with
  | zero => obtain rfl : vi x = p := by simpa using h
            exact ⟨_, rfl, rfl⟩
  | succ j => simp [cInt] at h⟩
structure Ln where
  o : Int
  k : Int
  a : Int
  t : Int
instance : Enc Ln where
  cells x := [I x.o, I x.k, I x.a, I x.t]
  k := 4
  len _ := rfl
  pos := by decide
  one := by simp [Value.oneCell', I]
theorem Rd.ln {w : World} {B : Nat} {A : Option Addr} {xs : List Ln} {i : Nat} {x : Ln} (h : Rd w B A xs) (hx : xs[i]? = some x) :
    ∃ b off, A = some ⟨b, off, none⟩ ∧ b < B ∧ w.cell? ⟨b, off + i * 4, none⟩ = some (I x.o) ∧ w.cell? ⟨b, off + i * 4 + 1, none⟩ = some (I x.k) ∧ w.cell? ⟨b, off + i * 4 + 2, none⟩ = some (I x.a) ∧ w.cell? ⟨b, off + i * 4 + 3, none⟩ = some (I x.t) := by
  obtain ⟨b, off, e, hb, hc⟩ := h.at_ hx
  exact ⟨b, off, e, hb, hc 0 _ rfl, hc 1 _ rfl, hc 2 _ rfl, hc 3 _ rfl⟩
instance : Inhabited Ln := ⟨⟨0, 0, 0, 0⟩⟩
def inB (n l h : Int) : Bool := decide (l ≤ n) && decide (n ≤ h)
def lineB (o k a t : Int) : Bool := inB o 1 9999 && inB k 1 3 && inB a 1 100000 && inB t 0 100000
def eqLn (x y : Ln) : Bool := x.o == y.o && x.k == y.k && x.a == y.a && x.t == y.t
theorem eqLn_iff {x y : Ln} : eqLn x y = true ↔ x = y := by
  cases x; cases y; simp [eqLn, and_assoc]
instance : DecidableEq Ln := fun _ _ => decidable_of_iff _ eqLn_iff
def sumStep (o k : Int) (s : Int) (x : Ln) : Int := if (x.o == o && x.k == k) = true then wrap64 (s + x.a) else s
def sumLn (xs : List Ln) (o k : Int) : Int := xs.foldl (sumStep o k) 0
def pctAt (xs : List Int) (j : Nat) : Bool := inB (xs.getD j 0) 0 100 && (decide (j = 0) || decide (xs.getD (j - 1) 0 ≤ xs.getD j 0))
def pctsB (xs : List Int) : Bool := allTo xs.length (pctAt xs) && inB xs.length 1 6
theorem pctAt_out {xs : List Int} {i : Nat} {x : Int} (hx : xs[i]? = some x) (h : inB x 0 100 = false) : pctAt xs i = false := by simp [pctAt, hx, h]
theorem pctAt_zero {xs : List Int} {i : Nat} {x : Int} (h0 : i ≤ 0) (hx : xs[i]? = some x) (h : inB x 0 100 = true) : pctAt xs i = true := by
  obtain rfl : i = 0 := by omega
  simp [pctAt, hx, h]
theorem pctAt_down {xs : List Int} {i : Nat} {x y : Int} (hy : xs[i]? = some y) (hx : xs[i + 1]? = some x) (h : x < y) : pctAt xs (i + 1) = false := by
  simp [pctAt, hx, hy]; omega
theorem pctAt_up {xs : List Int} {i : Nat} {x y : Int} (hy : xs[i]? = some y) (hx : xs[i + 1]? = some x) (hb : inB x 0 100 = true) (h : ¬ x < y) : pctAt xs (i + 1) = true := by
  simp [pctAt, hx, hy, hb]; omega
theorem pctsB_false {xs : List Int} {i : Nat} (hi : i < xs.length) (h : pctAt xs i = false) : pctsB xs = false := by simp [pctsB, allTo_false hi h]
theorem pctsB_len {xs : List Int} (h : allTo xs.length (pctAt xs) = true) : pctsB xs = inB xs.length 1 6 := by simp [pctsB, h]
theorem inB_true {n l h : Int} (e : inB n l h = true) : l ≤ n ∧ n ≤ h := by simpa [inB] using e
def cntStep (o k : Int) (s : Int) (x : Ln) : Int := if (x.o == o && x.k == k) = true then wrap64 (s + 1) else s
def cntLn (xs : List Ln) (o k : Int) : Int := xs.foldl (cntStep o k) 0
theorem cnt_sum_aux (o k : Int) : ∀ (b : List Ln) (c s : Int), (∀ x ∈ b, 1 ≤ x.a ∧ x.a ≤ 100000) → 0 ≤ c → c + b.length ≤ 200 → c ≤ s → s ≤ 100000 * c →
    0 ≤ b.foldl (cntStep o k) c ∧ b.foldl (cntStep o k) c ≤ c + b.length ∧ b.foldl (cntStep o k) c ≤ b.foldl (sumStep o k) s ∧ b.foldl (sumStep o k) s ≤ 100000 * b.foldl (cntStep o k) c
  | [], c, s, _, h0, hl, h1, h2 => ⟨h0, by simp, h1, h2⟩
  | x :: b, c, s, ha, h0, hl, h1, h2 => by
    have hx := ha x (by simp)
    simp only [List.length_cons] at hl
    have e1 : wrap64 (c + 1) = c + 1 := IntWalk.wrap64_in _ ⟨by omega, by omega⟩
    have e2 : wrap64 (s + x.a) = s + x.a := IntWalk.wrap64_in _ ⟨by omega, by omega⟩
    by_cases h : (x.o == o && x.k == k) = true
    · have r := cnt_sum_aux o k b (c + 1) (s + x.a) (fun y hy => ha y (by simp [hy])) (by omega) (by omega) (by omega) (by omega)
      simp only [List.foldl_cons, cntStep, sumStep, h, if_true, e1, e2] at r ⊢
      refine ⟨r.1, ?_, r.2.2.1, r.2.2.2⟩
      have := r.2.1
      simp only [List.length_cons]; omega
    · have r := cnt_sum_aux o k b c s (fun y hy => ha y (by simp [hy])) h0 (by omega) h1 h2
      simp only [List.foldl_cons, cntStep, sumStep, if_neg h] at r ⊢
      refine ⟨r.1, ?_, r.2.2.1, r.2.2.2⟩
      have := r.2.1
      simp only [List.length_cons]; omega
theorem cnt_sum {b : List Ln} (o k : Int) (ha : ∀ x ∈ b, 1 ≤ x.a ∧ x.a ≤ 100000) (hl : b.length ≤ 200) : 0 ≤ cntLn b o k ∧ cntLn b o k ≤ b.length ∧ cntLn b o k ≤ sumLn b o k ∧ sumLn b o k ≤ 100000 * cntLn b o k := by
  have r := cnt_sum_aux o k b 0 0 ha (by omega) (by omega) (by omega) (by omega)
  refine ⟨r.1, by have := r.2.1; unfold cntLn; omega, r.2.2.1, r.2.2.2⟩
/-! ### AreLines -/
def badAt (xs : List Ln) (i : Nat) (x : Ln) : Bool := !(lineB x.o x.k x.a x.t) || (decide (0 < i) && decide (x.t < (xs.getD (i - 1) default).t))
def fitB (b : List Ln) (x : Ln) : Bool :=
  if x.k = 1 then !decide (0 < sumLn b x.o 1)
  else if x.k = 2 then !decide (sumLn b x.o 1 < wrap64 (sumLn b x.o 2 + x.a))
  else !decide (0 < sumLn b x.o 3) && (sumLn b x.o 2 == sumLn b x.o 1) && !decide (sumLn b x.o 1 < x.a)
def lineAt (xs : List Ln) (i : Nat) : Bool := !(badAt xs i (xs.getD i default)) && fitB (xs.take i) (xs.getD i default)
def linesB (xs : List Ln) : Bool := decide (xs.length ≤ 200) && allTo xs.length (lineAt xs)
theorem linesB_long {xs : List Ln} (h : ¬ xs.length ≤ 200) : linesB xs = false := by simp [linesB, h]
theorem linesB_bad {xs : List Ln} {i : Nat} {x : Ln} (hx : xs[i]? = some x) (h : badAt xs i x = true) : linesB xs = false := by
  have : lineAt xs i = false := by simp [lineAt, hx, h]
  simp [linesB, allTo_false (lt_of_get hx) this]
theorem linesB_unfit {xs : List Ln} {i : Nat} {x : Ln} (hx : xs[i]? = some x) (h : fitB (xs.take i) x = false) : linesB xs = false := by
  have : lineAt xs i = false := by simp [lineAt, hx, h]
  simp [linesB, allTo_false (lt_of_get hx) this]
theorem lineAt_ok {xs : List Ln} {i : Nat} {x : Ln} (hx : xs[i]? = some x) (hb : badAt xs i x = false) (h : fitB (xs.take i) x = true) : lineAt xs i = true := by simp [lineAt, hx, h, hb]
theorem linesB_all {xs : List Ln} (h : xs.length ≤ 200) (ha : allTo xs.length (lineAt xs) = true) : linesB xs = true := by simp [linesB, h, ha]
theorem bad_line {xs : List Ln} {i : Nat} {x : Ln} (h : lineB x.o x.k x.a x.t = false) : badAt xs i x = true := by simp [badAt, h]
theorem bad_first {xs : List Ln} {i : Nat} {x : Ln} (h : lineB x.o x.k x.a x.t = true) (h0 : i ≤ 0) : badAt xs i x = false := by simp [badAt, h]; omega
theorem bad_next {xs : List Ln} {m : Nat} {x y : Ln} (h : lineB x.o x.k x.a x.t = true) (hy : xs[m]? = some y) : badAt xs (m + 1) x = decide (x.t < y.t) := by simp [badAt, h, hy]
theorem line_of_bad {xs : List Ln} {i : Nat} {x : Ln} (h : badAt xs i x = false) : lineB x.o x.k x.a x.t = true := by
  simp only [badAt, Bool.or_eq_false_iff, Bool.not_eq_false'] at h; exact h.1
theorem fit1 {b : List Ln} {x : Ln} (hk : x.k = 1) : fitB b x = !decide (0 < sumLn b x.o 1) := by simp [fitB, hk]
theorem fit2 {b : List Ln} {x : Ln} (hk : x.k = 2) : fitB b x = !decide (sumLn b x.o 1 < wrap64 (sumLn b x.o 2 + x.a)) := by simp [fitB, hk]
theorem fit3 {b : List Ln} {x : Ln} (hk : x.k = 3) : fitB b x = (!decide (0 < sumLn b x.o 3) && (sumLn b x.o 2 == sumLn b x.o 1) && !decide (sumLn b x.o 1 < x.a)) := by simp [fitB, hk]
theorem amount_of {x : Ln} (h : lineB x.o x.k x.a x.t = true) : 1 ≤ x.a ∧ x.a ≤ 100000 := by
  simp only [lineB, Bool.and_eq_true] at h
  exact inB_true h.1.2
theorem take_amounts {xs : List Ln} {i : Nat} (h : allTo i (lineAt xs) = true) : ∀ x ∈ xs.take i, 1 ≤ x.a ∧ x.a ≤ 100000 := by
  intro x hx
  obtain ⟨j, hj⟩ := List.getElem?_of_mem hx
  rw [List.getElem?_take] at hj
  split at hj
  · rename_i hlt
    have h1 := allTo_iff.1 h j hlt
    simp only [lineAt, List.getD_eq_getElem?_getD, hj, Option.getD_some, Bool.and_eq_true, Bool.not_eq_true'] at h1
    exact amount_of (line_of_bad h1.1)
  · cases hj
theorem cnt_pos {xs : List Ln} {i : Nat} (o k : Int) (h : allTo i (lineAt xs) = true) (hl : i ≤ 200) : decide (0 < cntLn (xs.take i) o k) = decide (0 < sumLn (xs.take i) o k) := by
  have r := cnt_sum o k (take_amounts h) (by rw [List.length_take]; omega)
  rw [decide_eq_decide]
  omega
theorem kind_of {x : Ln} (h : lineB x.o x.k x.a x.t = true) : x.k = 1 ∨ x.k = 2 ∨ x.k = 3 := by
  simp only [lineB, Bool.and_eq_true] at h
  have := inB_true h.1.1.2
  omega
/-! ### what is owed, cash, charging, paying -/
theorem within_any (n l h : Int) (w : World) : Calls Tryd.prog 38 #[.int .i64 n, .int .i64 l, .int .i64 h] w fun e w' => e = .returned (.bool (inB n l h)) ∧ w = w' := by
  by_cases h1 : l ≤ n
  · go_enter Tryd.func38, Tryd.ntmps38
    go_wp2
    go_ret
    exact ⟨by simp [h1, inB], rfl⟩
  · go_enter Tryd.func38, Tryd.ntmps38
    go_wp2
    go_ret
    exact ⟨by simp [inB]; omega, rfl⟩
theorem l1In_any (n l h : Int) (w : World) : Calls Tryd.prog 35 #[.int .i64 n, .int .i64 l, .int .i64 h] w fun e w' => e = .returned (.bool (inB n l h)) ∧ w = w' := by
  by_cases h1 : l ≤ n
  · go_enter Tryd.func35, Tryd.ntmps35
    go_wp2
    go_ret
    exact ⟨by simp [h1, inB], rfl⟩
  · go_enter Tryd.func35, Tryd.ntmps35
    go_wp2
    go_ret
    exact ⟨by simp [inB]; omega, rfl⟩
theorem Rd.int {w : World} {B : Nat} {A : Option Addr} {xs : List Int} {i : Nat} {x : Int} (h : Rd w B A xs) (hx : xs[i]? = some x) :
    ∃ b off, A = some ⟨b, off, none⟩ ∧ b < B ∧ w.cell? ⟨b, off + i, none⟩ = some (I x) := by
  obtain ⟨b, off, e, hb, hc⟩ := h.at_ hx
  have h0 := hc 0 _ rfl
  have : off + i * Enc.k Int + 0 = off + i := by show off + i * 1 + 0 = off + i; omega
  rw [this] at h0
  exact ⟨b, off, e, hb, h0⟩
theorem arePercents_spec (A : Option Addr) (c : Nat) (xs : List Int) (w : World) (hx : Rd w w.heap.size A xs) (hn : xs.length ≤ 2000000) :
    Calls Tryd.prog 61 #[.slice A xs.length c] w fun e w' => e = .returned (.bool (pctsB xs)) ∧ Below w.heap.size w w' := by
  go_enter Tryd.func61, Tryd.ntmps61
  go_wp2
  go_loopw [3] (fun i wr => ∃ j : Nat, j ≤ xs.length ∧ i = .int .i64 j ∧ Hid (allTo j (pctAt xs) = true) ∧ Below w.heap.size w wr) (fun i _ => xs.length - (intOf i).toNat)
  case atStart => exact ⟨0, by omega, rfl, allTo_zero _, Below.refl _ _⟩
  case round =>
    obtain ⟨i, hi, rfl, he, hb⟩ := hrel
    by_cases hlt : i < xs.length
    · obtain ⟨x, gx⟩ := get_of_lt hlt
      cases hin : inB x 0 100 with
      | false =>
        obtain ⟨b, off, rfl, hbb, c0⟩ := (hx.below hb).int gx
        have HR := Lib.hid (pctsB_false hlt (pctAt_out gx hin))
        clear gx hx
        go_wp2
        go_quiet ((go_at_call 35; exact quietL (l1In_any _ _ _ _)))
        go_wp2
        go_ret
        exact ⟨retb HR.out.symm, belowD hb _⟩
      | true =>
        rcases Nat.eq_zero_or_pos i with h0' | h0
        · have h0 : i ≤ 0 := by omega
          clear h0'
          obtain ⟨b, off, rfl, hbb, c0⟩ := (hx.below hb).int gx
          have HR := Lib.hid (pctAt_zero h0 gx hin)
          clear gx hx
          have d0 : decide ((0 : Int) < (i : Int)) = false := by simp; omega
          have d1 : decide (0 < i) = false := by simp; omega
          go_wp2
          go_quiet ((go_at_call 35; exact quietL (l1In_any _ _ _ _)))
          go_wp2
          exact ⟨⟨i + 1, by omega, by go_num, allTo_succ he.out HR.out, belowD hb _⟩, by simp [intOf]; omega⟩
        · obtain ⟨m, rfl⟩ : ∃ m, i = m + 1 := ⟨i - 1, by omega⟩
          obtain ⟨y, gy⟩ := get_of_lt (xs := xs) (i := m) (by omega)
          obtain ⟨b, off, rfl, hbb, c0⟩ := (hx.below hb).int gx
          obtain ⟨b', off', hA, _, c1⟩ := (hx.below hb).int gy
          obtain ⟨rfl, rfl⟩ : b = b' ∧ off = off' := by simpa using hA
          clear hA
          by_cases hlt2 : x < y
          · have HR := Lib.hid (pctsB_false hlt (pctAt_down gy gx hlt2))
            clear gx hx gy
            go_wp2
            go_quiet ((go_at_call 35; exact quietL (l1In_any _ _ _ _)))
            go_wp2
            go_ret
            exact ⟨retb HR.out.symm, belowD hb _⟩
          · have HR := Lib.hid (pctAt_up gy gx hin hlt2)
            clear gx hx gy
            go_wp2
            go_quiet ((go_at_call 35; exact quietL (l1In_any _ _ _ _)))
            go_wp2
            exact ⟨⟨m + 2, by omega, by go_num, allTo_succ he.out HR.out, belowD hb _⟩, by simp [intOf]; omega⟩
    · obtain rfl : i = xs.length := by omega
      have HR := Lib.hid (pctsB_len he.out)
      clear hx
      go_wp2_with (go_at_call 35; refine (l1In_any _ _ _ _).mono ?_; rintro e w' ⟨rfl, rfl⟩)
      go_ret
      exact ⟨retb HR.out.symm, hb⟩
theorem isLine_impl (o k a t : Int) (w : World) : Calls Tryd.prog 37 #[.agg #[.int .i64 o, .int .i64 k, .int .i64 a, .int .i64 t]] w fun e w' => e = .returned (.bool (lineB o k a t)) ∧ Below w.heap.size w w' := by
  go_enter Tryd.func37, Tryd.ntmps37
  go_wp2_with (go_at_call 38; refine (within_any _ _ _ _).mono ?_; rintro e w' ⟨rfl, rfl⟩)
  all_goals go_ret
  all_goals exact ⟨by simp [lineB, *], (Below.refl _ _).alloc (Nat.le_refl _) _⟩
theorem isLine_spec (o k a t : Int) (w : World) : Calls Tryd.prog 30 #[.agg #[.int .i64 o, .int .i64 k, .int .i64 a, .int .i64 t]] w fun e w' => e = .returned (.bool (lineB o k a t)) ∧ Below w.heap.size w w' := by
  go_enter Tryd.func30, Tryd.ntmps30
  go_wp2_with (go_at_call 35; refine (l1In_any _ _ _ _).mono ?_; rintro e w' ⟨rfl, rfl⟩)
  all_goals go_ret
  all_goals exact ⟨by simp [lineB, *], (Below.refl _ _).alloc (Nat.le_refl _) _⟩
theorem sumOf_impl (A : Option Addr) (xs : List Ln) (c : Nat) (o k : Int) (w : World) (hr : Rd w w.heap.size A xs) (hn : xs.length ≤ 2000000)
  : Calls Tryd.prog 14 #[.slice A xs.length c, .int .i64 o, .int .i64 k] w fun e w' => e = .returned (.int .i64 (sumLn xs o k)) ∧ Up w w' := by
  go_enter Tryd.func14, Tryd.ntmps14
  go_wp2
  go_loopw [7, 12] (fun n7 i wr => ∃ j : Nat, j ≤ xs.length ∧ i = .int .i64 j ∧ n7 = .int .i64 (sumLn (xs.take j) o k) ∧ Up w wr) (fun _ i _ => xs.length - (intOf i).toNat)
  case atStart => exact ⟨0, by omega, rfl, rfl, Below.refl _ _⟩
  case round =>
    obtain ⟨i, hi, rfl, rfl, hb⟩ := hrel
    by_cases hlt : i < xs.length
    · obtain ⟨x, hx⟩ := get_of_lt hlt
      obtain ⟨b, off, rfl, hbb, c0, c1, c2, c3⟩ := (hr.below hb).ln hx
      have hbs := hb.size
      have S : Hid (sumLn (xs.take (i+1)) o k = sumStep o k (sumLn (xs.take i) o k) x) := foldl_snoc hx _ _
      clear hr hx
      go_wp2
      all_goals exact ⟨⟨i + 1, by omega, by go_num, by rw [S.out]; simp [sumStep, *], by (repeat (first | exact Up.rfl' _ | (refine Up.al _ ?_) | (refine Up.dr _ ?_) | (refine Up.dr1 ?_) | (refine Up.sc ?_ (by first | exact Nat.le_refl _ | (simp; done) | omega) _) | (refine Up.step (by assumption) ?_)))⟩, by simp [intOf]; omega⟩
    · go_wp2
      go_ret
      obtain rfl : i = xs.length := by omega
      exact ⟨by simp, hb⟩
theorem sumOf_spec (A : Option Addr) (xs : List Ln) (c : Nat) (o k : Int) (w : World) (hr : Rd w w.heap.size A xs) (hn : xs.length ≤ 2000000)
  : Calls Tryd.prog 31 #[.slice A xs.length c, .int .i64 o, .int .i64 k] w fun e w' => e = .returned (.int .i64 (sumLn xs o k)) ∧ Up w w' := by
  go_enter Tryd.func31, Tryd.ntmps31
  go_wp2
  go_loopw [7, 8] (fun n7 i wr => ∃ j : Nat, j ≤ xs.length ∧ i = .int .i64 j ∧ n7 = .int .i64 (sumLn (xs.take j) o k) ∧ Up w wr) (fun _ i _ => xs.length - (intOf i).toNat)
  case atStart => exact ⟨0, by omega, rfl, rfl, Below.refl _ _⟩
  case round =>
    obtain ⟨i, hi, rfl, rfl, hb⟩ := hrel
    by_cases hlt : i < xs.length
    · obtain ⟨x, hx⟩ := get_of_lt hlt
      obtain ⟨b, off, rfl, hbb, c0, c1, c2, c3⟩ := (hr.below hb).ln hx
      have hbs := hb.size
      have S : Hid (sumLn (xs.take (i+1)) o k = sumStep o k (sumLn (xs.take i) o k) x) := foldl_snoc hx _ _
      clear hr hx
      go_wp2
      all_goals exact ⟨⟨i + 1, by omega, by go_num, by rw [S.out]; simp [sumStep, *], by (repeat (first | exact Up.rfl' _ | (refine Up.al _ ?_) | (refine Up.dr _ ?_) | (refine Up.dr1 ?_) | (refine Up.sc ?_ (by first | exact Nat.le_refl _ | (simp; done) | omega) _) | (refine Up.step (by assumption) ?_)))⟩, by simp [intOf]; omega⟩
    · go_wp2
      go_ret
      obtain rfl : i = xs.length := by omega
      exact ⟨by simp, hb⟩
def Ups (w : World) : Type := {w' : World // Up w w'}
instance (w : World) : Nonempty (Ups w) := ⟨⟨w, Up.rfl' w⟩⟩
def Ups.val {w : World} (x : Ups w) : World := x.1
theorem Ups.up {w : World} (x : Ups w) : Up w x.val := x.2
theorem Ups.cell {w : World} {b o : Nat} {v : Value} (h : w.cell? ⟨b, o, none⟩ = some v) : ∀ x : Ups w, x.val.cell? ⟨b, o, none⟩ = some v :=
  fun x => (x.2.cell (p := ⟨b, o, none⟩) (World.block_lt_of_cell? w ⟨b, o, none⟩ h)).trans h
theorem cellUp {w w' : World} {b o : Nat} {v : Value} (h : w.cell? ⟨b, o, none⟩ = some v) (hu : Up w w') : w'.cell? ⟨b, o, none⟩ = some v := Ups.cell h ⟨w', hu⟩
theorem Ups.rd {α : Type} [Enc α] {w : World} {A : Option Addr} {xs : List α} (h : Rd w w.heap.size A xs) (x : Ups w) : Rd x.val x.val.heap.size A xs := h.up x.2
theorem Ups.call {P : Program} {f : FuncId} {args : Array Value} {w : World} {x : Ups w} {v : Value} (h : Calls P f args x.val fun e w' => e = .returned v ∧ Up x.val w') :
    Calls P f args x.val fun e w'' => e = .returned v ∧ ∃ y : Ups w, w'' = y.val :=
  h.mono fun _ v2 ⟨he, hu⟩ => ⟨he, ⟨v2, Up.step hu x.2⟩, rfl⟩
theorem wp_region_up {P : Program} {id : Nat} {Q : Exit → Act → World → Prop} {a : Act} {w : World} {l : List Oper} (hm : P.follows .mixedOrders = true) (hB : Region.lexB .any l.toArray = true)
    (h : wpQuiet P l.toArray (fun w' => ∃ x : Ups w, w' = x.val) (fun a' => ∀ w', Up w w' → Q .normal a' w') l a) : (Code.region id l.toArray true).wp P Q a w := by
  refine wp_region_quiet (C := fun w' => ∃ x : Ups w, w' = x.val) hm hB ⟨⟨_, Up.dr1 (Up.rfl' w)⟩, rfl⟩ ?_
  have e : (fun a' => ∀ w', (∃ x : Ups w, w' = x.val) → Q .normal a' w') = (fun a' => ∀ w', Up w w' → Q .normal a' w') := by
    funext a'
    refine propext ⟨fun h w' hu => h w' ⟨⟨w', hu⟩, rfl⟩, fun h w' hx => ?_⟩
    obtain ⟨x, rfl⟩ := hx
    exact h _ x.2
  rw [e]
  simpa using h
end Go.Proofs.YtgdcengoopjplaaDoor
