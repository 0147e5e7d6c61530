/- The layer of plain values: the rules of a plain walk. No program in sight. -/
import Derived.Test.YtooikkfldddjfaaPlC
namespace Go.Proofs.Ytooikkfldddjfaa
set_option maxRecDepth 10000
open Go.RowKit

theorem gate_true (y n : Prop) : gate true y n = y := by simp [gate]
theorem gate_false (y n : Prop) : gate false y n = n := by simp [gate]
theorem gate_intro {c : Bool} {y n : Prop} (h1 : c = true → y) (h2 : c = false → n) : gate c y n := ⟨h1, h2⟩
section
variable {P : Program} {Q : Exit → List PV → Mem → Prop} {t : List PV} {m : Mem} {K : List PV → Mem → Prop}
theorem thenP_normal : thenP K Q .normal t m = K t m := rfl
theorem thenP_exit {i : Nat} : thenP K Q (.exit i) t m = Q (.exit i) t m := rfl
theorem thenP_ret : thenP K Q .ret t m = Q .ret t m := rfl
theorem blockP_normal {id : Nat} : blockP id Q .normal t m = Q .normal t m := rfl
theorem blockP_exit {id i : Nat} : blockP id Q (.exit i) t m = if i = id then Q .normal t m else Q (.exit i) t m := rfl
theorem blockP_ret {id : Nat} : blockP id Q .ret t m = Q .ret t m := rfl
theorem pwp_seq {x y : Code} (h : ∀ K : List PV → Mem → Prop, (∀ t m, pwp P y Q t m → K t m) → pwp P x (thenP K Q) t m) : pwp P (.seq x y) Q t m :=
  h (fun t m => pwp P y Q t m) (fun _ _ h => h)
theorem pwp_block {id : Nat} {c : Code} (h : pwp P c (blockP id Q) t m) : pwp P (.block id c) Q t m := h
theorem pwp_cond {c : Operand} {x y : Code} {b : Bool} (hc : evP t c = .v (.bool b)) (h1 : b = true → pwp P x Q t m) (h2 : b = false → pwp P y Q t m) : pwp P (.cond c x y) Q t m := by
  simp only [pwp, hc]
  cases b with
  | true => simpa using h1 rfl
  | false => simpa using h2 rfl
def condP (p : PV) (A B : Prop) : Prop := match p with
  | .v (.bool b) => (b = true → A) ∧ (b = false → B)
  | _ => False
theorem pwp_condE {c : Operand} {x y : Code} (h : condP (evP t c) (pwp P x Q t m) (pwp P y Q t m)) : pwp P (.cond c x y) Q t m := by
  unfold condP at h
  split at h
  · rename_i b hb; exact pwp_cond hb h.1 h.2
  · exact h.elim
theorem condP_intro {b : Bool} {A B : Prop} (h1 : b = true → A) (h2 : b = false → B) : condP (.v (.bool b)) A B := ⟨h1, h2⟩
theorem pwp_skip (h : Q .normal t m) : pwp P .skip Q t m := h
theorem pwp_exit {i : Nat} (h : Q (.exit i) t m) : pwp P (.exit i) Q t m := h
theorem pwp_ret (h : Q .ret t m) : pwp P .ret Q t m := h
theorem pwp_region {id : Nat} {ops : List Oper} (h : pops P ops.toArray (Q .normal) ops t m) : pwp P (.region id ops.toArray false) Q t m := h
theorem pwp_draw {id : Nat} {ops : List Oper} (h1 : P.follows .mixedOrders = true) (h2 : Region.lexB .any ops.toArray = true) (h : pqs P ops.toArray m (fun t => Q .normal t m) ops t) : pwp P (.region id ops.toArray true) Q t m := ⟨h1, .inl ⟨h2, h⟩⟩
theorem pwp_tree {id : Nat} {ops : List Oper} (T : OT) (h1 : P.follows .mixedOrders = true) (hD : T.okD ops.toArray.size = true) (hT : T.okT ops.toArray (Array.replicate ops.toArray.size false) = true) (hh : (Region.ready .any ops.toArray (Array.replicate ops.toArray.size false) == T.heads) = true) (hn : T.isNil = false)
    (h : pSibs P ops.toArray (Q .normal) T t m) : pwp P (.region id ops.toArray true) Q t m := ⟨h1, .inr ⟨T, hD, hT, hh, hn, h⟩⟩
/-- A loop's end of a round: on to a round with less to do. -/
def Again (I : Nat → List PV → Mem → Prop) (n : Nat) (K : List PV → Mem → Prop) : Prop := ∀ k t t' m m', k < n → I k t' m' → Cut t m t' m' → K t m
theorem pwp_loop {c : Code} (I : Nat → List PV → Mem → Prop) (n : Nat) (t0 : List PV) (m0 : Mem) (h0 : Cut t m t0 m0) (h1 : I n t0 m0)
    (h : ∀ n t m, I n t m → ∀ K : List PV → Mem → Prop, Again I n K → pwp P c (thenP K Q) t m) : pwp P (.loop c) Q t m :=
  ⟨I, n, t0, m0, h0, h1, fun n t m hI => h n t m hI (fun t m => ∃ k t' m', k < n ∧ Cut t m t' m' ∧ I k t' m') (fun k t t' m m' h1 h2 h3 => ⟨k, t', m', h1, h3, h2⟩)⟩
/-- What is represented fits into memory. -/
inductive Fits : PV → Prop
  | v (x : Value) : Fits (.v x)
  | ud : Fits .ud
  | un : Fits .un
  | sl (es : List (List PV)) (h : es.length ≤ maxLen) (hr : ∀ (i : Nat) (cs : List PV) (j : Nat) (p : PV), es[i]? = some cs → cs[j]? = some p → Fits p) : Fits (.sl es)
  | rp (cs : List PV) (hr : ∀ (j : Nat) (p : PV), cs[j]? = some p → Fits p) : Fits (.rp cs)
theorem Fits.of {w : World} {S : Nat → Prop} {p : PV} {x : Value} (h : RepC w S p x) : Fits p := by
  induction h with
  | v x h => exact .v x
  | ud => exact .ud
  | un x => exact .un
  | nil A c => exact .sl [] (Nat.zero_le _) (by simp)
  | sl es b off k c u hSb hk hn hm hes hcc h1 hr ih => exact .sl es (Nat.le_trans hn hm) ih
  | rp cs b off u hSb hcc h1 hr ih => exact .rp cs ih
def FitsA : PV → Prop
  | .ag cs => ∀ c ∈ cs, Fits c
  | .tu _ => True
  | p => Fits p
theorem Fits.len {es : List (List PV)} (h : Fits (.sl es)) : es.length ≤ maxLen := by cases h; assumption
theorem Fits.cell {es : List (List PV)} (h : Fits (.sl es)) {cs : List PV} (hc : cs ∈ es) {p : PV} (hp : p ∈ cs) : Fits p := by
  cases h with
  | sl _ _ hr =>
    obtain ⟨i, hi⟩ := List.getElem?_of_mem hc
    obtain ⟨j, hj⟩ := List.getElem?_of_mem hp
    exact hr i cs j p hi hj
/-- The same function, its body the walk's. -/
theorem callOk_of {f : FuncId} {fn : Func} {c : Code} (hf : P.funcs[f]? = some fn) (hb : fn.body = some c) {n : Nat} (hn : fn.ntmps = n) {rs : Array ResultVar} (hrs : fn.results = rs) {args : List PV} {r : PV} {m' : Mem}
    (h : (∀ p ∈ args, FitsA p) → ∀ Q : Exit → List PV → Mem → Prop, (∀ t m, (resP P rs.toList t m fun ps => Cut [oneP ps] m [r] m') → Q .ret t m) → pwp P c Q (args ++ List.replicate (n - args.length) .ud) []) : CallOk P f args r m' := by
  subst hn hrs
  intro S w vs hS hl hargs
  refine callOk_body hf hb (h ?_ (fun e t m => (e = .ret ∨ e = .normal) ∧ Fin P fn r m' t m) (fun t m h => ⟨.inl rfl, h⟩)) S w vs hS hl hargs
  intro p hp
  obtain ⟨i, hi⟩ := List.getElem?_of_mem hp
  obtain ⟨x, _, hrep⟩ := hargs i p hi
  cases hrep with
  | c h => cases h with
    | v => exact .v _
    | ud => exact .ud
    | un => exact .un
    | nil A c => exact Fits.of (.nil (w := w) (S := S) A c)
    | sl es b off k c u h1 h2 h3 h4 h5 h6 h7 h8 => exact Fits.of (.sl es b off k c u h1 h2 h3 h4 h5 h6 h7 h8)
    | rp cs b off u h1 h2 h3 h4 => exact Fits.of (.rp cs b off u h1 h2 h3 h4)
  | ms l _ hl => exact absurd hl (Nat.not_lt_zero _)
  | be l _ _ _ hl => exact absurd hl (Nat.not_lt_zero _)
  | ag cs vs hl h1 hr =>
    intro c hc
    obtain ⟨j, hj⟩ := List.getElem?_of_mem hc
    have hjv : j < vs.size := by rw [hl]; exact (List.getElem?_eq_some_iff.1 hj).1
    have hrc := hr j c _ hj (Array.getElem?_eq_getElem hjv)
    have hone := h1 j _ (Array.getElem?_eq_getElem hjv)
    generalize vs[j] = z at hrc hone
    cases hrc with
    | c h => exact Fits.of h
    | ms l _ hl => exact absurd hl (Nat.not_lt_zero _)
    | be l _ _ _ hl => exact absurd hl (Nat.not_lt_zero _)
    | ag => simp [Value.oneCell'] at hone
    | tu => simp [Value.oneCell'] at hone
  | tu ps vs hl hr => exact trivial
end

theorem baL (a b : ByteArray) : (a.toList = b.toList) = (a = b) := by
  rw [ByteArray.toList_eq, ByteArray.toList_eq]
  obtain ⟨⟨x⟩⟩ := a
  obtain ⟨⟨y⟩⟩ := b
  simp
theorem nrfl {α : Sort _} {a b : α} (h : a = b) : a = b := h
theorem set_z (a b : PV) (as : List PV) : (a :: as).set 0 b = b :: as := nrfl rfl
theorem set_s (a b : PV) (as : List PV) (n : Nat) : (a :: as).set (n + 1) b = a :: as.set n b := nrfl rfl
theorem getD_z (a d : PV) (as : List PV) : (a :: as).getD 0 d = a := nrfl rfl
theorem getD_s (a d : PV) (as : List PV) (n : Nat) : (a :: as).getD (n + 1) d = as.getD n d := nrfl rfl
theorem ops_z {α : Type} (a : α) (as : List α) : (a :: as)[0]? = some a := nrfl rfl
theorem ops_s {α : Type} (a : α) (as : List α) (n : Nat) : (a :: as)[n + 1]? = as[n]? := nrfl rfl
theorem ops_a {α : Type} (as : List α) (n : Nat) : as.toArray[n]? = as[n]? := nrfl (by simp)
abbrev vi (n : Int) : PV := .v (.int .i64 n)
abbrev vb (b : Bool) : PV := .v (.bool b)
abbrev vs (s : ByteArray) : PV := .v (.string s)
theorem wrap_in {n : Int} (h1 : -9223372036854775808 ≤ n) (h2 : n ≤ 9223372036854775807) : IntKind.i64.wrap n = n := IntWalk.i64_in _ (by omega)
theorem wrap_succ {i n : Nat} (h : i < n) (hn : n ≤ maxLen) : IntKind.i64.wrap ((i : Int) + 1) = ((i + 1 : Nat) : Int) := by
  unfold maxLen at hn
  rw [wrap_in (by omega) (by omega)]; rfl
theorem getD_map {α : Type} {xs : List α} {i : Nat} {x : α} (h : xs[i]? = some x) (f : α → List PV) (d : List PV) : (xs.map f).getD i d = f x := by
  simp [List.getD, h]

/-! The walk's rewriting, each step with a proof of its own (so that the kernel need not unfold). -/
section
variable {P : Program} {ops : Array Oper} {K : List PV → Mem → Prop} {Kq : List PV → Prop} {rest : List Oper} {t : List PV} {m : Mem} {d : Option Tmp} {o : Op} {ty : TypeId} {pos : String} {af : Array Edge} {j : Nat} {b : Bool} {KA : PV → Mem → Prop} {KR : PV → Prop}
/-- What comes behind an operation, as a word of its own (so that a rewriting does not go into it). -/
def nxt (P : Program) (ops : Array Oper) (K : List PV → Mem → Prop) (rest : List Oper) (t : List PV) (d : Option Tmp) (p : PV) (m : Mem) : Prop := pops P ops K rest (putP t d p) m
def nxq (P : Program) (ops : Array Oper) (m : Mem) (K : List PV → Prop) (rest : List Oper) (t : List PV) (d : Option Tmp) (p : PV) : Prop := pqs P ops m K rest (putP t d p)
def atM (K : PV → Mem → Prop) (m : Mem) (p : PV) : Prop := K p m
def rgo (P : Program) (ops : Array Oper) (K : List PV → Mem → Prop) (rest : List Oper) (d : Option Tmp) (o : Op) (m : Mem) (t : List PV) : Prop := popA P o t m (nxt P ops K rest t d)
def pgo (P : Program) (ops : Array Oper) (K : List PV → Mem → Prop) (rest : List Oper) (d : Option Tmp) (m : Mem) (t : List PV) : Prop := pops P ops K rest (putP t d .ud) m
def rgq (P : Program) (ops : Array Oper) (K : List PV → Prop) (rest : List Oper) (d : Option Tmp) (o : Op) (m : Mem) (t : List PV) : Prop := popQ P o t m (nxq P ops m K rest t d)
def pgq (P : Program) (ops : Array Oper) (K : List PV → Prop) (rest : List Oper) (d : Option Tmp) (m : Mem) (t : List PV) : Prop := pqs P ops m K rest (putP t d .ud)
def gate2 (c : Bool) (y n : List PV → Prop) (t : List PV) (i : Nat) : Prop := gate c (y (t.set i (.v (.bool true)))) (n (t.set i (.v (.bool false))))
def gdV (p : PV) (i : Nat) (t : List PV) (b : Bool) (run pass : List PV → Prop) : Prop :=
  match p, b with
  | .v (.bool c), true => gate2 c run pass t i
  | .v (.bool c), false => gate2 c pass run t i
  | .ud, _ => pass t
  | _, _ => False
def gd (d : Option Tmp) (t : List PV) (b : Bool) (run pass : List PV → Prop) : Prop :=
  match d with
  | none => pass t
  | some d => gdV (t.getD d .un) d t b run pass
theorem nxt_app {p : PV} : nxt P ops K rest t d p m = pops P ops K rest (putP t d p) m := nrfl rfl
theorem nxq_app {p : PV} : nxq P ops m Kq rest t d p = pqs P ops m Kq rest (putP t d p) := nrfl rfl
theorem atM_app {p : PV} : atM KA m p = KA p m := nrfl rfl
theorem rgo_app : rgo P ops K rest d o m t = popA P o t m (nxt P ops K rest t d) := nrfl rfl
theorem pgo_app : pgo P ops K rest d m t = pops P ops K rest (putP t d .ud) m := nrfl rfl
theorem rgq_app : rgq P ops Kq rest d o m t = popQ P o t m (nxq P ops m Kq rest t d) := nrfl rfl
theorem pgq_app : pgq P ops Kq rest d m t = pqs P ops m Kq rest (putP t d .ud) := nrfl rfl
theorem gate2_tt {y n : List PV → Prop} {i : Nat} : gate2 true y n t i = y (t.set i (.v (.bool true))) := by simp [gate2, gate]
theorem gate2_ff {y n : List PV → Prop} {i : Nat} : gate2 false y n t i = n (t.set i (.v (.bool false))) := by simp [gate2, gate]
theorem gate2_intro {c : Bool} {y n : List PV → Prop} {i : Nat} (h1 : c = true → y (t.set i (.v (.bool true)))) (h2 : c = false → n (t.set i (.v (.bool false)))) : gate2 c y n t i := ⟨h1, h2⟩
theorem pops_nil : pops P ops K [] t m = K t m := nrfl rfl
theorem pops_go : pops P ops K (⟨d, o, ty, pos, af, none⟩ :: rest) t m = popA P o t m (nxt P ops K rest t d) := nrfl rfl
theorem pops_gd : pops P ops K (⟨d, o, ty, pos, af, some (j, b)⟩ :: rest) t m = gd ((ops[j]?).bind (·.dst)) t b (rgo P ops K rest d o m) (pgo P ops K rest d m) := by
  cases h : (ops[j]?).bind (·.dst) with
  | none => simp only [pops, h, gd, pgo]
  | some d' =>
    simp only [pops, h, gd]
    generalize t.getD d' .un = p
    cases p with
    | v x => cases x <;> cases b <;> rfl
    | _ => cases b <;> rfl
theorem pqs_nil : pqs P ops m Kq [] t = Kq t := nrfl rfl
theorem pqs_go : pqs P ops m Kq (⟨d, o, ty, pos, af, none⟩ :: rest) t = popQ P o t m (nxq P ops m Kq rest t d) := nrfl rfl
theorem pqs_gd : pqs P ops m Kq (⟨d, o, ty, pos, af, some (j, b)⟩ :: rest) t = gd ((ops[j]?).bind (·.dst)) t b (rgq P ops Kq rest d o m) (pgq P ops Kq rest d m) := by
  cases h : (ops[j]?).bind (·.dst) with
  | none => simp only [pqs, h, gd, pgq]
  | some d' =>
    simp only [pqs, h, gd]
    generalize t.getD d' .un = p
    cases p with
    | v x => cases x <;> cases b <;> rfl
    | _ => cases b <;> rfl
theorem gd_some {i : Nat} {run pass : List PV → Prop} : gd (some i) t b run pass = gdV (t.getD i .un) i t b run pass := nrfl rfl
theorem gd_none {run pass : List PV → Prop} : gd none t b run pass = pass t := nrfl rfl
theorem gdV_tt {i : Nat} {c : Bool} {run pass : List PV → Prop} : gdV (.v (.bool c)) i t true run pass = gate2 c run pass t i := nrfl rfl
theorem gdV_ff {i : Nat} {c : Bool} {run pass : List PV → Prop} : gdV (.v (.bool c)) i t false run pass = gate2 c pass run t i := nrfl rfl
theorem gdV_ud {i : Nat} {run pass : List PV → Prop} : gdV .ud i t b run pass = pass t := by cases b <;> rfl
theorem putP_some {i : Nat} {p : PV} : putP t (some i) p = t.set i p := nrfl rfl
theorem putP_none {p : PV} : putP t none p = t := nrfl rfl
theorem evP_tmp {i : Nat} : evP t (.tmp i) = t.getD i .un := nrfl rfl
theorem evP_int {k : IntKind} {n : Int} : evP t (.const (.int k n)) = .v (.int k n) := nrfl rfl
theorem evP_bool {c : Bool} : evP t (.const (.bool c)) = .v (.bool c) := nrfl rfl
theorem evP_str {c : ByteArray} : evP t (.const (.string c)) = .v (.string c) := nrfl rfl
theorem evP_sl {a : Option Addr} {n c : Nat} : evP t (.const (.slice a n c)) = .v (.slice a n c) := nrfl rfl
theorem evP_ptr {a : Option Addr} : evP t (.const (.pointer a)) = .v (.pointer a) := nrfl rfl
theorem evP_func {f : FuncId} : evP t (.func f) = .v (.func (.func f) #[] #[]) := nrfl rfl
theorem popA_move {x : Operand} : popA P (.move x) t m KA = KA (evP t x) m := nrfl rfl
theorem popA_assign {x : Operand} : popA P (.assign x) t m KA = KA (evP t x) m := nrfl rfl
def pPick (c x y : PV) (K : PV → Prop) : Prop := match c with
  | .v (.bool b) => K (if b then x else y)
  | _ => False
theorem pPick_t {x y : PV} : pPick (.v (.bool true)) x y KR = KR x := nrfl rfl
theorem pPick_f {x y : PV} : pPick (.v (.bool false)) x y KR = KR y := nrfl rfl
theorem pPick_b {c : Bool} {x y : PV} : pPick (.v (.bool c)) x y KR = KR (if c then x else y) := nrfl rfl
theorem popA_pick {c x y : Operand} : popA P (.pick c x y) t m KA = pPick (evP t c) (evP t x) (evP t y) (atM KA m) := nrfl rfl
theorem popA_load {T : TypeId} {x : Operand} : popA P (.load T x) t m KA = pLoad P T (rdp m (evP t x)) (atM KA m) := nrfl rfl
theorem popA_nilCheck {x : Operand} : popA P (.nilCheck x) t m KA = pNil m (evP t x) (atM KA m) := nrfl rfl
theorem popA_binOp {op : BinOp} {T T' : TypeId} {x y : Operand} : popA P (.binOp op T x y T') t m KA = pBin P op T (evP t x) (evP t y) (atM KA m) := nrfl rfl
theorem popA_unOp {op : UnOp} {T : TypeId} {x : Operand} : popA P (.unOp op T x) t m KA = pUn op (evP t x) (atM KA m) := nrfl rfl
theorem popA_convert {T T' : TypeId} {x : Operand} : popA P (.convert T T' x) t m KA = pConv P T T' (evP t x) (atM KA m) := nrfl rfl
theorem popA_slice {T : TypeId} {x : Operand} {lo hi : Option Operand} : popA P (.slice T x lo hi none) t m KA = pSlice P T (evP t x) (lo.map (evP t)) (hi.map (evP t)) (atM KA m) := nrfl rfl
theorem popA_fieldAddr {T : TypeId} {x : Operand} {f : Nat} : popA P (.fieldAddr T x f) t m KA = pFieldAddr P m T (evP t x) f (atM KA m) := nrfl rfl
theorem popA_field {T : TypeId} {x : Operand} {f : Nat} : popA P (.field T x f) t m KA = pField P T (evP t x) f (atM KA m) := nrfl rfl
theorem popA_indexAddr {T : TypeId} {x y : Operand} : popA P (.indexAddr T x y) t m KA = pIndexAddr P m T (evP t x) (evP t y) (atM KA m) := nrfl rfl
theorem popA_index {T : TypeId} {x y : Operand} : popA P (.index T x y) t m KA = pIndex P T (evP t x) (evP t y) (atM KA m) := nrfl rfl
theorem popA_extract {x : Operand} {i : Nat} : popA P (.extract x i) t m KA = pExt i (evP t x) (atM KA m) := nrfl rfl
theorem popA_build {T : TypeId} {ps : List (Nat × Operand)} : popA P (.build T ps.toArray) t m KA = pBuild P T (ps.map fun q => (q.1, evP t q.2)) (atM KA m) := nrfl rfl
theorem popA_len {x : Operand} {T : TypeId} : popA P (.call ⟨.builtin .len, #[x], #[T]⟩) t m KA = pLen P m T (evP t x) (atM KA m) := nrfl rfl
theorem popA_min {x y : Operand} {T T' : TypeId} : popA P (.call ⟨.builtin .min, #[x, y], #[T, T']⟩) t m KA = pMinMax false [evP t x, evP t y] (atM KA m) := nrfl rfl
theorem popA_max {x y : Operand} {T T' : TypeId} : popA P (.call ⟨.builtin .max, #[x, y], #[T, T']⟩) t m KA = pMinMax true [evP t x, evP t y] (atM KA m) := nrfl rfl
theorem popA_alloc {T : TypeId} : popA P (.alloc T) t m KA = pBox m T (pz P T) KA := nrfl rfl
theorem popA_box {T : TypeId} {x : Operand} : popA P (.box T x) t m KA = pBox m T (pc (evP t x)) KA := nrfl rfl
theorem popA_buildSlice {T : TypeId} {n : Nat} {ps : List (Nat × Operand)} : popA P (.buildSlice T n ps.toArray) t m KA = pBuildSlice P m T n (ps.map fun q => (q.1, evP t q.2)) KA := nrfl rfl
theorem popA_makeSlice {T : TypeId} {x y : Operand} : popA P (.makeSlice T x y) t m KA = pMake P m T (evP t x) (evP t y) KA := nrfl rfl
theorem popA_store {T : TypeId} {x y : Operand} : popA P (.store T x y) t m KA = pStore P m T (evP t x) (evP t y) KA := nrfl rfl
theorem popA_append {x y : Operand} {T : TypeId} : popA P (.call ⟨.builtin .append, #[x, y], #[T, T]⟩) t m KA = pAppend P m T (evP t x) (evP t y) KA := by
  have : popA P (.call ⟨.builtin .append, #[x, y], #[T, T]⟩) t m KA = (T = T ∧ pAppend P m T (evP t x) (evP t y) KA) := rfl
  rw [this]; simp
theorem popA_call {f : FuncId} {xs : List Operand} {Ts : Array TypeId} : popA P (.call ⟨.value (.func f), xs.toArray, Ts⟩) t m KA = (isFn P f ∧ pCall P f (xs.map (evP t)) m KA) := nrfl rfl
theorem popQ_move {x : Operand} : popQ P (.move x) t m KR = KR (evP t x) := nrfl rfl
theorem popQ_assign {x : Operand} : popQ P (.assign x) t m KR = KR (evP t x) := nrfl rfl
theorem popQ_pick {c x y : Operand} : popQ P (.pick c x y) t m KR = pPick (evP t c) (evP t x) (evP t y) KR := nrfl rfl
theorem popQ_load {T : TypeId} {x : Operand} : popQ P (.load T x) t m KR = pLoad P T (rdp m (evP t x)) KR := nrfl rfl
theorem popQ_nilCheck {x : Operand} : popQ P (.nilCheck x) t m KR = pNil m (evP t x) KR := nrfl rfl
theorem popQ_binOp {op : BinOp} {T T' : TypeId} {x y : Operand} : popQ P (.binOp op T x y T') t m KR = pBin P op T (evP t x) (evP t y) KR := nrfl rfl
theorem popQ_unOp {op : UnOp} {T : TypeId} {x : Operand} : popQ P (.unOp op T x) t m KR = pUn op (evP t x) KR := nrfl rfl
theorem popQ_convert {T T' : TypeId} {x : Operand} : popQ P (.convert T T' x) t m KR = pConv P T T' (evP t x) KR := nrfl rfl
theorem popQ_slice {T : TypeId} {x : Operand} {lo hi : Option Operand} : popQ P (.slice T x lo hi none) t m KR = pSlice P T (evP t x) (lo.map (evP t)) (hi.map (evP t)) KR := nrfl rfl
theorem popQ_fieldAddr {T : TypeId} {x : Operand} {f : Nat} : popQ P (.fieldAddr T x f) t m KR = pFieldAddr P m T (evP t x) f KR := nrfl rfl
theorem popQ_field {T : TypeId} {x : Operand} {f : Nat} : popQ P (.field T x f) t m KR = pField P T (evP t x) f KR := nrfl rfl
theorem popQ_indexAddr {T : TypeId} {x y : Operand} : popQ P (.indexAddr T x y) t m KR = pIndexAddr P m T (evP t x) (evP t y) KR := nrfl rfl
theorem popQ_index {T : TypeId} {x y : Operand} : popQ P (.index T x y) t m KR = pIndex P T (evP t x) (evP t y) KR := nrfl rfl
theorem popQ_extract {x : Operand} {i : Nat} : popQ P (.extract x i) t m KR = pExt i (evP t x) KR := nrfl rfl
theorem popQ_len {x : Operand} {T : TypeId} : popQ P (.call ⟨.builtin .len, #[x], #[T]⟩) t m KR = pLen P m T (evP t x) KR := nrfl rfl
theorem popQ_call {f : FuncId} {xs : List Operand} {Ts : Array TypeId} : popQ P (.call ⟨.value (.func f), xs.toArray, Ts⟩) t m KR = (isFn P f ∧ pCallQ P f (xs.map (evP t)) m KR) := nrfl rfl
end

/-! Rules for what the rewriting leaves alone. -/
section
variable {P : Program} {m : Mem} {K : PV → Prop} {KA : PV → Mem → Prop}
/-- The cells of an element of a slice type; 0 of any other. -/
def elemK (P : Program) (T : TypeId) : Nat := match P.underlying T with
  | some (.slice e) => P.cellsOf e
  | _ => 0
theorem elemK_of {T : TypeId} (h : 0 < elemK P T) : ∃ e, P.underlying T = some (.slice e) ∧ elemK P T = P.cellsOf e := by
  unfold elemK at *
  split at h
  · rename_i e he; exact ⟨e, he, rfl⟩
  · omega
theorem idx_sl {T : TypeId} {es : List (List PV)} {i : Nat} {k : IntKind} {cs : List PV} (h : es[i]? = some cs) (hp : 0 < elemK P T) (hc : cs.length = elemK P T) (hK : K (.rp cs)) : pIndexAddr P m T (.sl es) (.v (.int k (i : Int))) K := by
  obtain ⟨e, hu, he⟩ := elemK_of hp
  rw [he] at hp hc
  have hi : i < es.length := (List.getElem?_eq_some_iff.1 h).1
  have hd : es.getD i [] = cs := by simp [List.getD, h]
  simp only [pIndexAddr, hu]
  refine ⟨by omega, by omega, hp, ?_, ?_⟩
  · simp only [Int.toNat_natCast]; rw [hd]; exact hc
  · simp only [Int.toNat_natCast]; rw [hd]; exact hK
theorem idx_map {α : Type} {f : α → List PV} {xs : List α} {x : α} {T : TypeId} {i : Nat} {k : IntKind} (h : xs[i]? = some x) (hp : 0 < elemK P T) (hc : (f x).length = elemK P T) (hK : K (.rp (f x))) : pIndexAddr P m T (.sl (xs.map f)) (.v (.int k (i : Int))) K :=
  idx_sl (by simp [h]) hp hc hK
theorem call_flat {f : FuncId} {ps : List PV} {r : PV} {m' : Mem} (hs : snapA m ps (fun qs => CallOk P f qs r m')) (hm : ∀ mb, some mb ∈ m' → ∀ cs ∈ mb.es, ∀ p ∈ cs, isC p = true ∧ isF p = true) (hF : forV (fun p => isF p = true) r) (hK : KA (shV m.length r) (m ++ m')) : pCall P f ps m KA :=
  ⟨r, m', .inl ⟨hs, hm, hF⟩, hK⟩
theorem call_deep {f : FuncId} {ps : List PV} {r : PV} {m' : Mem} (hs : CallOk P f ps r m') (hp : ∀ p ∈ ps, isCA p = true) (hm : ∀ mb, some mb ∈ m' → ∀ cs ∈ mb.es, ∀ p ∈ cs, isC p = true ∧ True) (hF : forV (fun _ => True) r) (hK : KA (shV m.length r) (m ++ m')) : pCall P f ps m KA :=
  ⟨r, m', .inr ⟨hs, hp, hm, hF⟩, hK⟩
theorem call_q {f : FuncId} {ps : List PV} {r : PV} (hs : snapA m ps (fun qs => CallOk P f qs r [])) (hv : (valOf r).isSome = true) (hK : K r) : pCallQ P f ps m K := ⟨r, hs, hv, hK⟩
theorem gate_of_true {c : Bool} {y n : Prop} (h : c = true) (hy : y) : gate c y n := ⟨fun _ => hy, fun h' => by rw [h] at h'; cases h'⟩
theorem gate_of_false {c : Bool} {y n : Prop} (h : c = false) (hn : n) : gate c y n := ⟨fun h' => (by rw [h] at h'; cases h'), fun _ => hn⟩
end

/-! Own rows. -/
section
variable {P : Program} {m m' : Mem} {K : PV → Prop} {KA : PV → Mem → Prop}
theorem idx_ms {T : TypeId} {l i : Nat} {k : IntKind} {mb : MB} (hm : m[l]? = some (some mb)) (hi : i < mb.es.length) (hp : 0 < elemK P T) (hk : mb.k = elemK P T) (hK : K (.be l i 0)) : pIndexAddr P m T (.ms l) (.v (.int k (i : Int))) K := by
  obtain ⟨e, hu, he⟩ := elemK_of hp
  rw [he] at hk
  simp only [pIndexAddr, hu, live, hm, Int.toNat_natCast]
  exact ⟨by omega, by omega, hk, hK⟩
theorem store_be {T : TypeId} {l i o : Nat} {mb : MB} {cs qs : List PV} {x : PV} (hq : pc x = some qs) (hm : m[l]? = some (some mb)) (hcs : mb.es[i]? = some cs) (hp : 0 < qs.length) (hT : qs.length = P.cellsOf T) (hl : o + qs.length ≤ cs.length)
    (hK : KA .ud (m.set l (some ⟨mb.T, mb.k, mb.es.set i (setR cs o qs)⟩))) : pStore P m T (.be l i o) x KA := by
  simp only [pStore, hq, live, hm, hcs]
  exact ⟨hp, hT, hl, hK⟩
theorem setR_z (c q : PV) (cs qs : List PV) : setR (c :: cs) 0 (q :: qs) = q :: setR cs 0 qs := by simp [setR]
theorem setR_e (cs : List PV) : setR cs 0 [] = cs := by simp [setR]
theorem setR_s (c : PV) (cs qs : List PV) (n : Nat) : setR (c :: cs) (n + 1) qs = c :: setR cs n qs := by
  simp only [setR, List.take_succ_cons, List.cons_append]
  rw [show n + 1 + qs.length = (n + qs.length) + 1 by omega, List.drop_succ_cons]
theorem rapp_z {α : Type} (bs : List α) : List.append [] bs = bs := nrfl rfl
theorem rapp_s {α : Type} (a : α) (as bs : List α) : List.append (a :: as) bs = a :: List.append as bs := nrfl rfl
theorem mset_z {α : Type} (a b : α) (as : List α) : (a :: as).set 0 b = b :: as := nrfl rfl
theorem mset_s {α : Type} (a b : α) (as : List α) (n : Nat) : (a :: as).set (n + 1) b = a :: as.set n b := nrfl rfl
/-- Each living row of the new memory stands for a row of the old. -/
def chkM (ρ : Nat → Nat) (m m' : Mem) : Nat → Mem → Prop
  | _, [] => True
  | i, none :: r => chkM ρ m m' (i + 1) r
  | i, some mb' :: r => (∃ mb, m[ρ i]? = some (some mb) ∧ cutB ρ m m' mb mb') ∧ chkM ρ m m' (i + 1) r
theorem chkM_get {ρ : Nat → Nat} : ∀ (r : Mem) (i : Nat), chkM ρ m m' i r → ∀ l mb', r[l]? = some (some mb') → ∃ mb, m[ρ (i + l)]? = some (some mb) ∧ cutB ρ m m' mb mb'
  | [], _, _, l, mb', h => by simp at h
  | none :: r, i, hc, l, mb', h => by
    cases l with
    | zero => simp at h
    | succ l =>
      have := chkM_get r (i + 1) hc l mb' (by simpa using h)
      rwa [show i + 1 + l = i + (l + 1) by omega] at this
  | some mb :: r, i, hc, l, mb', h => by
    cases l with
    | zero =>
      have e : mb = mb' := by simpa using h
      subst e
      exact hc.1
    | succ l =>
      have := chkM_get r (i + 1) hc.2 l mb' (by simpa using h)
      rwa [show i + 1 + l = i + (l + 1) by omega] at this
theorem cutM_list (rs : List Nat) (hn : rs.Nodup) (hl : rs.length = m'.length) (h : chkM (fun l => rs.getD l 0) m m' 0 m') : cutM (fun l => rs.getD l 0) m m' := by
  refine ⟨fun l mb' hm => by simpa using chkM_get m' 0 h l mb' hm, fun l l' ⟨mb, h1⟩ ⟨mb', h2⟩ e => ?_⟩
  have hl1 : l < rs.length := by rw [hl]; exact (List.getElem?_eq_some_iff.1 h1).1
  have hl2 : l' < rs.length := by rw [hl]; exact (List.getElem?_eq_some_iff.1 h2).1
  simp only [List.getD, List.getElem?_eq_getElem hl1, List.getElem?_eq_getElem hl2, Option.getD_some] at e
  rcases Nat.lt_trichotomy l l' with h3 | h3 | h3
  · exact absurd e (List.pairwise_iff_getElem.1 hn l l' hl1 hl2 h3)
  · exact h3
  · exact absurd e.symm (List.pairwise_iff_getElem.1 hn l' l hl2 hl1 h3)
/-- A row that a loop fills. -/
def fillL {α : Type} (f : α → List PV) (xs : List α) (z : List PV) (i : Nat) : List (List PV) := (xs.take i).map f ++ List.replicate (xs.length - i) z
theorem fillL_zero {α : Type} (f : α → List PV) (xs : List α) (z : List PV) : fillL f xs z 0 = List.replicate xs.length z := by simp [fillL]
theorem fillL_all {α : Type} (f : α → List PV) (xs : List α) (z : List PV) : fillL f xs z xs.length = xs.map f := by simp [fillL]
theorem fillL_len {α : Type} {f : α → List PV} {xs : List α} {z : List PV} {i : Nat} (h : i ≤ xs.length) : (fillL f xs z i).length = xs.length := by
  simp [fillL]; omega
theorem fillL_get {α : Type} {f : α → List PV} {xs : List α} {z : List PV} {i : Nat} (h : i < xs.length) : (fillL f xs z i)[i]? = some z := by
  unfold fillL
  rw [List.getElem?_append_right (by simp; omega), List.getElem?_replicate]
  simp; omega
theorem fillL_set {α : Type} {f : α → List PV} {xs : List α} {z : List PV} {i : Nat} {x : α} (h : xs[i]? = some x) : (fillL f xs z i).set i (f x) = fillL f xs z (i + 1) := by
  have hi : i < xs.length := (List.getElem?_eq_some_iff.1 h).1
  have hl : ((xs.take i).map f).length = i := by simp; omega
  unfold fillL
  rw [List.set_append_right _ _ (by omega), hl, Nat.sub_self, take_snoc h, List.map_append, List.append_assoc]
  congr 1
  rw [show xs.length - i = (xs.length - (i + 1)) + 1 by omega, List.replicate_succ]
  rfl
/-- A row of plain cells. -/
def rowC (es : List (List PV)) : Prop := ∀ cs ∈ es, ∀ q ∈ cs, isC q = true
theorem cutB_same {ρ : Nat → Nat} {T k es} (h : rowC es) : cutB ρ m m' ⟨T, k, es⟩ ⟨T, k, es⟩ := ⟨rfl, rfl, .inl ⟨rfl, h⟩⟩
theorem rowC_fill {α : Type} {f : α → List PV} {xs : List α} {z : List PV} {i : Nat} (h : ∀ x, ∀ q ∈ f x, isC q = true) (hz : ∀ q ∈ z, isC q = true) : rowC (fillL f xs z i) := by
  intro cs hcs q hq
  simp only [fillL, List.mem_append, List.mem_map, List.mem_replicate] at hcs
  rcases hcs with ⟨x, _, rfl⟩ | ⟨_, rfl⟩
  · exact h x q hq
  · exact hz q hq
theorem rowC_rep {z : List PV} {n : Nat} (hz : ∀ q ∈ z, isC q = true) : rowC (List.replicate n z) := by
  intro cs hcs q hq
  rw [List.mem_replicate] at hcs
  exact hz q (hcs.2 ▸ hq)
/-- Two structs' fields, compared in turn. -/
def eqF (P : Program) (d : Nat) : List Field → List PV → List PV → Option Bool
  | [], _, _ => some true
  | f :: fs, cs, ds => if f.name = "_" then none else match eqT P d f.type ((cs.drop f.offset).take (P.cellsOf f.type)) ((ds.drop f.offset).take (P.cellsOf f.type)), eqF P d fs cs ds with
    | some r, some s => some (r && s)
    | _, _ => none
theorem eqT_struct {d : Nat} {T : TypeId} {fs : Array Field} {cs ds : List PV} (hu : P.underlying T = some (.struct fs)) (hs : P.stoodInHeld T = false) : eqT P (d + 1) T cs ds = eqF P d fs.toList cs ds := by
  have key : ∀ l : List Field, l.foldr (fun f acc => if f.name = "_" then none else match eqT P d f.type ((cs.drop f.offset).take (P.cellsOf f.type)) ((ds.drop f.offset).take (P.cellsOf f.type)), acc with
        | some r, some s => some (r && s)
        | _, _ => none) (some true) = eqF P d l cs ds := by
    intro l
    induction l with
    | nil => rfl
    | cons f l ih => rw [List.foldr_cons, ih]; rfl
  rw [← key]
  conv => lhs; unfold eqT
  rw [hu]
  simp only [hs, Bool.false_eq_true, if_false, Program.fieldsOf, hu]
  rfl
theorem eqF_int {d : Nat} {f : Field} {fs : List Field} {cs ds l1 l2 : List PV} {k0 k : IntKind} {a b : Int} {s : Bool} (hn : (f.name = "_") = False) (hu : P.underlying f.type = some (.int k0)) (hc : P.cellsOf f.type = 1) (h1 : cs.drop f.offset = .v (.int k a) :: l1) (h2 : ds.drop f.offset = .v (.int k b) :: l2)
    (h : eqF P (d + 1) fs cs ds = some s) : eqF P (d + 1) (f :: fs) cs ds = some ((a == b) && s) := by
  simp only [eqF, hn, if_false, h, hc, h1, h2, eqT, hu, List.take_succ_cons, if_true]
theorem eqF_str {d : Nat} {f : Field} {fs : List Field} {cs ds l1 l2 : List PV} {a b : ByteArray} {s : Bool} (hn : (f.name = "_") = False) (hu : P.underlying f.type = some .string) (hc : P.cellsOf f.type = 1) (h1 : cs.drop f.offset = .v (.string a) :: l1) (h2 : ds.drop f.offset = .v (.string b) :: l2)
    (h : eqF P (d + 1) fs cs ds = some s) : eqF P (d + 1) (f :: fs) cs ds = some ((a.toList == b.toList) && s) := by
  simp only [eqF, hn, if_false, h, hc, h1, h2, eqT, hu, List.take_succ_cons]
theorem eqF_sub {d k : Nat} {f : Field} {fs : List Field} {cs ds l1 l2 : List PV} {r s : Bool} (hn : (f.name = "_") = False) (hc : P.cellsOf f.type = k) (h1 : (cs.drop f.offset).take k = l1) (h2 : (ds.drop f.offset).take k = l2) (hr : eqT P d f.type l1 l2 = some r)
    (h : eqF P d fs cs ds = some s) : eqF P d (f :: fs) cs ds = some (r && s) := by
  simp only [eqF, hn, if_false, h, hc, h1, h2, hr]
theorem eqF_nil {d : Nat} {cs ds : List PV} : eqF P d [] cs ds = some true := rfl
end
/- The walk's set of rewriting rules. -/
attribute [go_sem] nxt_app nxq_app atM_app rgo_app pgo_app rgq_app pgq_app gate2_tt gate2_ff pops_nil pops_go pops_gd pqs_nil pqs_go pqs_gd gd_some gd_none gdV_tt gdV_ff gdV_ud putP_some putP_none evP_tmp evP_int evP_bool evP_str evP_sl evP_ptr evP_func popA_move popA_assign pPick_t pPick_f popA_pick popA_load popA_nilCheck popA_binOp popA_unOp popA_convert popA_slice popA_fieldAddr popA_field popA_indexAddr popA_index popA_extract popA_build popA_len popA_min popA_max popA_alloc popA_box popA_buildSlice popA_makeSlice popA_store popA_append popA_call popQ_move popQ_assign popQ_pick popQ_load popQ_nilCheck popQ_binOp popQ_unOp popQ_convert popQ_slice popQ_fieldAddr popQ_field popQ_indexAddr popQ_index popQ_extract popQ_len popQ_call pPick_b pBin binV pUn pConv pNil pFieldAddr pField pExt pLen pMinMax pLoad rdp live aggd pBox pc thenP_normal blockP_normal thenP_exit thenP_ret blockP_exit blockP_ret set_z set_s getD_z getD_s ops_a ops_z ops_s Option.bind_some List.length_map if_true if_false Bool.false_eq_true List.map_cons List.map_nil List.toList_toArray beq_self_eq_true ite_self Int.toNat_natCast true_and and_true shV shA shC List.length_nil List.nil_append List.append_nil Nat.zero_add List.drop_zero List.drop_succ_cons List.take_zero List.take_succ_cons List.length_cons List.cons_append Option.map_some setR_z setR_e setR_s mset_z mset_s rapp_z rapp_s pMake List.replicate_zero
end Go.Proofs.Ytooikkfldddjfaa
